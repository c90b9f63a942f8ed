/- The types of this seat as data, and the system of its calls. Conditions: none. -/
import Derived.Test.YtaogbcdlpgfplaaDoorRows
import Derived.Test.YtaogbcdlpgfplaaDoorL6
import Derived.Test.YtaogbcdlpgfplaaDoorSh
import Derived.KernelRfl
namespace Go.Proofs.YtaogbcdlpgfplaaDoor
open Go Dv
set_option linter.unusedSimpArgs false
set_option maxRecDepth 100000

def tab : List Ty := [.other, .func, .int .i64, .int .i64, .bool, .int .u8, .int .u8, .struct [2, 3, 4, 6], .struct [2, 3, 4, 6], .string, .string, .string, .int .u64, .struct [9, 12], .struct [9, 12], .ptr, .ptr, .ptr, .struct [17], .struct [17], .iface, .int .i32, .slice 51, .func, .other, .func, .slice 49, .func, .func, .func, .other, .func, .func, .func, .slice 70, .struct [3, 3, 34, 34], .struct [3, 3, 34, 34], .func, .func, .struct [3, 3, 34, 34], .func, .func, .func, .other, .func, .func, .func, .func, .struct [3, 3], .struct [3, 3], .func, .struct [3, 3], .slice 9, .func, .func, .func, .func, .func, .func, .func, .func, .iface, .iface, .other, .func, .func, .func, .func, .func, .func, .slice 3, .other, .func, .other, .func, .func, .func, .func, .ptr, .slice 5, .struct [78, 79], .struct [78, 79], .func, .func, .func, .func, .func, .func, .func, .func, .func, .func, .func, .other, .func, .func, .ptr, .func, .func, .int .i64, .other, .func, .ptr, .func, .func, .func, .func, .func, .arr 24 5, .int .u64, .func, .func, .other, .func, .other, .func, .func, .other, .func, .func, .other, .func, .int .u64, .func, .other, .other, .func, .func, .func, .func, .func, .func, .func, .other, .int .u32, .arr 65 5, .func, .func, .ptr, .struct [9], .struct [9], .func, .func, .other, .struct [5, 5], .struct [5, 5], .other, .other, .func, .arr 32 5, .arr 64 5, .struct [17, 17, 17, 9], .struct [17, 17, 17, 9], .other, .other, .other, .int .u8, .int .u8, .func, .int .i32, .int .i32, .struct [12, 12, 134, 156, 5, 5, 157, 158, 96, 159, 160], .struct [12, 12, 134, 156, 5, 5, 157, 158, 96, 159, 160]]
def nst : List (TypeId × List (Nat × TypeId)) := [(108, [(0, 5), (1, 5), (2, 5), (3, 5), (4, 5), (5, 5), (6, 5), (7, 5), (8, 5), (9, 5), (10, 5), (11, 5), (12, 5), (13, 5), (14, 5), (15, 5), (16, 5), (17, 5), (18, 5), (19, 5), (20, 5), (21, 5), (22, 5), (23, 5)]), (135, [(0, 5), (1, 5), (2, 5), (3, 5), (4, 5), (5, 5), (6, 5), (7, 5), (8, 5), (9, 5), (10, 5), (11, 5), (12, 5), (13, 5), (14, 5), (15, 5), (16, 5), (17, 5), (18, 5), (19, 5), (20, 5), (21, 5), (22, 5), (23, 5), (24, 5), (25, 5), (26, 5), (27, 5), (28, 5), (29, 5), (30, 5), (31, 5), (32, 5), (33, 5), (34, 5), (35, 5), (36, 5), (37, 5), (38, 5), (39, 5), (40, 5), (41, 5), (42, 5), (43, 5), (44, 5), (45, 5), (46, 5), (47, 5), (48, 5), (49, 5), (50, 5), (51, 5), (52, 5), (53, 5), (54, 5), (55, 5), (56, 5), (57, 5), (58, 5), (59, 5), (60, 5), (61, 5), (62, 5), (63, 5), (64, 5)]), (149, [(0, 5), (1, 5), (2, 5), (3, 5), (4, 5), (5, 5), (6, 5), (7, 5), (8, 5), (9, 5), (10, 5), (11, 5), (12, 5), (13, 5), (14, 5), (15, 5), (16, 5), (17, 5), (18, 5), (19, 5), (20, 5), (21, 5), (22, 5), (23, 5), (24, 5), (25, 5), (26, 5), (27, 5), (28, 5), (29, 5), (30, 5), (31, 5)]), (150, [(0, 5), (1, 5), (2, 5), (3, 5), (4, 5), (5, 5), (6, 5), (7, 5), (8, 5), (9, 5), (10, 5), (11, 5), (12, 5), (13, 5), (14, 5), (15, 5), (16, 5), (17, 5), (18, 5), (19, 5), (20, 5), (21, 5), (22, 5), (23, 5), (24, 5), (25, 5), (26, 5), (27, 5), (28, 5), (29, 5), (30, 5), (31, 5), (32, 5), (33, 5), (34, 5), (35, 5), (36, 5), (37, 5), (38, 5), (39, 5), (40, 5), (41, 5), (42, 5), (43, 5), (44, 5), (45, 5), (46, 5), (47, 5), (48, 5), (49, 5), (50, 5), (51, 5), (52, 5), (53, 5), (54, 5), (55, 5), (56, 5), (57, 5), (58, 5), (59, 5), (60, 5), (61, 5), (62, 5), (63, 5)])]
def tys : Tys := { tysN tab nst with vars := [(2, isTab .u64 Lib.pow10Tab), (3, isNum)] }
def lends (f : FuncId) : Bool := [14, 23, 49, 73].contains f

theorem ty1 : tys.ty 1 = .func := nr rfl
theorem ty2 : tys.ty 2 = .int .i64 := nr rfl
theorem ty3 : tys.ty 3 = .int .i64 := nr rfl
theorem kn3 : tys.known 3 = true := nr rfl
theorem st3 : tys.isStruct 3 = false := nr rfl
theorem zr3 : tys.zeros 3 = [.int .i64 0] := nr rfl
theorem zo3 : tys.zero1 3 = .int .i64 0 := nr rfl
theorem sz3 : tys.size 3 = 1 := nr rfl
theorem ty4 : tys.ty 4 = .bool := nr rfl
theorem kn4 : tys.known 4 = true := nr rfl
theorem st4 : tys.isStruct 4 = false := nr rfl
theorem zr4 : tys.zeros 4 = [.bool false] := nr rfl
theorem zo4 : tys.zero1 4 = .bool false := nr rfl
theorem sz4 : tys.size 4 = 1 := nr rfl
theorem ty5 : tys.ty 5 = .int .u8 := nr rfl
theorem kn5 : tys.known 5 = true := nr rfl
theorem st5 : tys.isStruct 5 = false := nr rfl
theorem zr5 : tys.zeros 5 = [.int .u8 0] := nr rfl
theorem zo5 : tys.zero1 5 = .int .u8 0 := nr rfl
theorem sz5 : tys.size 5 = 1 := nr rfl
theorem ty6 : tys.ty 6 = .int .u8 := nr rfl
theorem ty7 : tys.ty 7 = .struct [2, 3, 4, 6] := nr rfl
theorem ty8 : tys.ty 8 = .struct [2, 3, 4, 6] := nr rfl
theorem ty9 : tys.ty 9 = .string := nr rfl
theorem kn9 : tys.known 9 = true := nr rfl
theorem st9 : tys.isStruct 9 = false := nr rfl
theorem zr9 : tys.zeros 9 = [.str ByteArray.empty] := nr rfl
theorem zo9 : tys.zero1 9 = .str ByteArray.empty := nr rfl
theorem sz9 : tys.size 9 = 1 := nr rfl
theorem ty10 : tys.ty 10 = .string := nr rfl
theorem ty11 : tys.ty 11 = .string := nr rfl
theorem ty12 : tys.ty 12 = .int .u64 := nr rfl
theorem ty13 : tys.ty 13 = .struct [9, 12] := nr rfl
theorem ty14 : tys.ty 14 = .struct [9, 12] := nr rfl
theorem ty15 : tys.ty 15 = .ptr := nr rfl
theorem ty16 : tys.ty 16 = .ptr := nr rfl
theorem ty17 : tys.ty 17 = .ptr := nr rfl
theorem ty18 : tys.ty 18 = .struct [17] := nr rfl
theorem ty19 : tys.ty 19 = .struct [17] := nr rfl
theorem ty20 : tys.ty 20 = .iface := nr rfl
theorem ty21 : tys.ty 21 = .int .i32 := nr rfl
theorem kn21 : tys.known 21 = true := nr rfl
theorem st21 : tys.isStruct 21 = false := nr rfl
theorem zr21 : tys.zeros 21 = [.int .i32 0] := nr rfl
theorem zo21 : tys.zero1 21 = .int .i32 0 := nr rfl
theorem sz21 : tys.size 21 = 1 := nr rfl
theorem ty22 : tys.ty 22 = .slice 51 := nr rfl
theorem kn22 : tys.known 22 = true := nr rfl
theorem st22 : tys.isStruct 22 = false := nr rfl
theorem zr22 : tys.zeros 22 = [.own 51 []] := nr rfl
theorem zo22 : tys.zero1 22 = .own 51 [] := nr rfl
theorem sz22 : tys.size 22 = 1 := nr rfl
theorem ty23 : tys.ty 23 = .func := nr rfl
theorem ty25 : tys.ty 25 = .func := nr rfl
theorem ty26 : tys.ty 26 = .slice 49 := nr rfl
theorem kn26 : tys.known 26 = true := nr rfl
theorem st26 : tys.isStruct 26 = false := nr rfl
theorem zr26 : tys.zeros 26 = [.own 49 []] := nr rfl
theorem zo26 : tys.zero1 26 = .own 49 [] := nr rfl
theorem sz26 : tys.size 26 = 1 := nr rfl
theorem ty27 : tys.ty 27 = .func := nr rfl
theorem ty28 : tys.ty 28 = .func := nr rfl
theorem ty29 : tys.ty 29 = .func := nr rfl
theorem ty31 : tys.ty 31 = .func := nr rfl
theorem ty32 : tys.ty 32 = .func := nr rfl
theorem ty33 : tys.ty 33 = .func := nr rfl
theorem ty34 : tys.ty 34 = .slice 70 := nr rfl
theorem kn34 : tys.known 34 = true := nr rfl
theorem st34 : tys.isStruct 34 = false := nr rfl
theorem zr34 : tys.zeros 34 = [.own 70 []] := nr rfl
theorem zo34 : tys.zero1 34 = .own 70 [] := nr rfl
theorem sz34 : tys.size 34 = 1 := nr rfl
theorem ty35 : tys.ty 35 = .struct [3, 3, 34, 34] := nr rfl
theorem ty36 : tys.ty 36 = .struct [3, 3, 34, 34] := nr rfl
theorem kn36 : tys.known 36 = true := nr rfl
theorem st36 : tys.isStruct 36 = true := nr rfl
theorem zr36 : tys.zeros 36 = [.int .i64 0, .int .i64 0, .own 70 [], .own 70 []] := nr rfl
theorem ne36 : tys.nest 36 = none := nr rfl
theorem sz36 : tys.size 36 = 4 := nr rfl
theorem ty37 : tys.ty 37 = .func := nr rfl
theorem ty38 : tys.ty 38 = .func := nr rfl
theorem ty39 : tys.ty 39 = .struct [3, 3, 34, 34] := nr rfl
theorem kn39 : tys.known 39 = true := nr rfl
theorem st39 : tys.isStruct 39 = true := nr rfl
theorem zr39 : tys.zeros 39 = [.int .i64 0, .int .i64 0, .own 70 [], .own 70 []] := nr rfl
theorem ne39 : tys.nest 39 = none := nr rfl
theorem sz39 : tys.size 39 = 4 := nr rfl
theorem ty40 : tys.ty 40 = .func := nr rfl
theorem ty41 : tys.ty 41 = .func := nr rfl
theorem ty42 : tys.ty 42 = .func := nr rfl
theorem ty44 : tys.ty 44 = .func := nr rfl
theorem ty45 : tys.ty 45 = .func := nr rfl
theorem ty46 : tys.ty 46 = .func := nr rfl
theorem ty47 : tys.ty 47 = .func := nr rfl
theorem ty48 : tys.ty 48 = .struct [3, 3] := nr rfl
theorem ty49 : tys.ty 49 = .struct [3, 3] := nr rfl
theorem kn49 : tys.known 49 = true := nr rfl
theorem st49 : tys.isStruct 49 = true := nr rfl
theorem zr49 : tys.zeros 49 = [.int .i64 0, .int .i64 0] := nr rfl
theorem ne49 : tys.nest 49 = none := nr rfl
theorem sz49 : tys.size 49 = 2 := nr rfl
theorem ty50 : tys.ty 50 = .func := nr rfl
theorem ty51 : tys.ty 51 = .struct [3, 3] := nr rfl
theorem kn51 : tys.known 51 = true := nr rfl
theorem st51 : tys.isStruct 51 = true := nr rfl
theorem zr51 : tys.zeros 51 = [.int .i64 0, .int .i64 0] := nr rfl
theorem ne51 : tys.nest 51 = none := nr rfl
theorem sz51 : tys.size 51 = 2 := nr rfl
theorem ty52 : tys.ty 52 = .slice 9 := nr rfl
theorem kn52 : tys.known 52 = true := nr rfl
theorem st52 : tys.isStruct 52 = false := nr rfl
theorem zr52 : tys.zeros 52 = [.own 9 []] := nr rfl
theorem zo52 : tys.zero1 52 = .own 9 [] := nr rfl
theorem sz52 : tys.size 52 = 1 := nr rfl
theorem ty53 : tys.ty 53 = .func := nr rfl
theorem ty54 : tys.ty 54 = .func := nr rfl
theorem ty55 : tys.ty 55 = .func := nr rfl
theorem ty56 : tys.ty 56 = .func := nr rfl
theorem ty57 : tys.ty 57 = .func := nr rfl
theorem ty58 : tys.ty 58 = .func := nr rfl
theorem ty59 : tys.ty 59 = .func := nr rfl
theorem ty60 : tys.ty 60 = .func := nr rfl
theorem ty61 : tys.ty 61 = .iface := nr rfl
theorem ty62 : tys.ty 62 = .iface := nr rfl
theorem ty64 : tys.ty 64 = .func := nr rfl
theorem ty65 : tys.ty 65 = .func := nr rfl
theorem ty66 : tys.ty 66 = .func := nr rfl
theorem ty67 : tys.ty 67 = .func := nr rfl
theorem ty68 : tys.ty 68 = .func := nr rfl
theorem ty69 : tys.ty 69 = .func := nr rfl
theorem ty70 : tys.ty 70 = .slice 3 := nr rfl
theorem kn70 : tys.known 70 = true := nr rfl
theorem st70 : tys.isStruct 70 = false := nr rfl
theorem zr70 : tys.zeros 70 = [.own 3 []] := nr rfl
theorem zo70 : tys.zero1 70 = .own 3 [] := nr rfl
theorem sz70 : tys.size 70 = 1 := nr rfl
theorem ty72 : tys.ty 72 = .func := nr rfl
theorem ty74 : tys.ty 74 = .func := nr rfl
theorem ty75 : tys.ty 75 = .func := nr rfl
theorem ty76 : tys.ty 76 = .func := nr rfl
theorem ty77 : tys.ty 77 = .func := nr rfl
theorem ty78 : tys.ty 78 = .ptr := nr rfl
theorem ty79 : tys.ty 79 = .slice 5 := nr rfl
theorem kn79 : tys.known 79 = true := nr rfl
theorem st79 : tys.isStruct 79 = false := nr rfl
theorem zr79 : tys.zeros 79 = [.own 5 []] := nr rfl
theorem zo79 : tys.zero1 79 = .own 5 [] := nr rfl
theorem sz79 : tys.size 79 = 1 := nr rfl
theorem ty80 : tys.ty 80 = .struct [78, 79] := nr rfl
theorem ty81 : tys.ty 81 = .struct [78, 79] := nr rfl
theorem ty82 : tys.ty 82 = .func := nr rfl
theorem ty83 : tys.ty 83 = .func := nr rfl
theorem ty84 : tys.ty 84 = .func := nr rfl
theorem ty85 : tys.ty 85 = .func := nr rfl
theorem ty86 : tys.ty 86 = .func := nr rfl
theorem ty87 : tys.ty 87 = .func := nr rfl
theorem ty88 : tys.ty 88 = .func := nr rfl
theorem ty89 : tys.ty 89 = .func := nr rfl
theorem ty90 : tys.ty 90 = .func := nr rfl
theorem ty91 : tys.ty 91 = .func := nr rfl
theorem ty92 : tys.ty 92 = .func := nr rfl
theorem ty94 : tys.ty 94 = .func := nr rfl
theorem ty95 : tys.ty 95 = .func := nr rfl
theorem ty96 : tys.ty 96 = .ptr := nr rfl
theorem ty97 : tys.ty 97 = .func := nr rfl
theorem ty98 : tys.ty 98 = .func := nr rfl
theorem ty99 : tys.ty 99 = .int .i64 := nr rfl
theorem ty101 : tys.ty 101 = .func := nr rfl
theorem ty102 : tys.ty 102 = .ptr := nr rfl
theorem ty103 : tys.ty 103 = .func := nr rfl
theorem ty104 : tys.ty 104 = .func := nr rfl
theorem ty105 : tys.ty 105 = .func := nr rfl
theorem ty106 : tys.ty 106 = .func := nr rfl
theorem ty107 : tys.ty 107 = .func := nr rfl
theorem ty108 : tys.ty 108 = .arr 24 5 := nr rfl
theorem ty109 : tys.ty 109 = .int .u64 := nr rfl
theorem kn109 : tys.known 109 = true := nr rfl
theorem st109 : tys.isStruct 109 = false := nr rfl
theorem zr109 : tys.zeros 109 = [.int .u64 0] := nr rfl
theorem zo109 : tys.zero1 109 = .int .u64 0 := nr rfl
theorem sz109 : tys.size 109 = 1 := nr rfl
theorem ty110 : tys.ty 110 = .func := nr rfl
theorem ty111 : tys.ty 111 = .func := nr rfl
theorem ty113 : tys.ty 113 = .func := nr rfl
theorem ty115 : tys.ty 115 = .func := nr rfl
theorem ty116 : tys.ty 116 = .func := nr rfl
theorem ty118 : tys.ty 118 = .func := nr rfl
theorem ty119 : tys.ty 119 = .func := nr rfl
theorem ty121 : tys.ty 121 = .func := nr rfl
theorem ty122 : tys.ty 122 = .int .u64 := nr rfl
theorem kn122 : tys.known 122 = true := nr rfl
theorem st122 : tys.isStruct 122 = false := nr rfl
theorem zr122 : tys.zeros 122 = [.int .u64 0] := nr rfl
theorem zo122 : tys.zero1 122 = .int .u64 0 := nr rfl
theorem sz122 : tys.size 122 = 1 := nr rfl
theorem ty123 : tys.ty 123 = .func := nr rfl
theorem ty126 : tys.ty 126 = .func := nr rfl
theorem ty127 : tys.ty 127 = .func := nr rfl
theorem ty128 : tys.ty 128 = .func := nr rfl
theorem ty129 : tys.ty 129 = .func := nr rfl
theorem kn129 : tys.known 129 = true := nr rfl
theorem st129 : tys.isStruct 129 = false := nr rfl
theorem zr129 : tys.zeros 129 = [.konst .nilFunc] := nr rfl
theorem zo129 : tys.zero1 129 = .konst .nilFunc := nr rfl
theorem sz129 : tys.size 129 = 1 := nr rfl
theorem ty130 : tys.ty 130 = .func := nr rfl
theorem ty131 : tys.ty 131 = .func := nr rfl
theorem ty132 : tys.ty 132 = .func := nr rfl
theorem ty134 : tys.ty 134 = .int .u32 := nr rfl
theorem kn134 : tys.known 134 = true := nr rfl
theorem st134 : tys.isStruct 134 = false := nr rfl
theorem zr134 : tys.zeros 134 = [.int .u32 0] := nr rfl
theorem zo134 : tys.zero1 134 = .int .u32 0 := nr rfl
theorem sz134 : tys.size 134 = 1 := nr rfl
theorem ty135 : tys.ty 135 = .arr 65 5 := nr rfl
theorem ty136 : tys.ty 136 = .func := nr rfl
theorem ty137 : tys.ty 137 = .func := nr rfl
theorem ty138 : tys.ty 138 = .ptr := nr rfl
theorem ty139 : tys.ty 139 = .struct [9] := nr rfl
theorem ty140 : tys.ty 140 = .struct [9] := nr rfl
theorem ty141 : tys.ty 141 = .func := nr rfl
theorem ty142 : tys.ty 142 = .func := nr rfl
theorem ty144 : tys.ty 144 = .struct [5, 5] := nr rfl
theorem ty145 : tys.ty 145 = .struct [5, 5] := nr rfl
theorem ty148 : tys.ty 148 = .func := nr rfl
theorem ty149 : tys.ty 149 = .arr 32 5 := nr rfl
theorem ty150 : tys.ty 150 = .arr 64 5 := nr rfl
theorem ty151 : tys.ty 151 = .struct [17, 17, 17, 9] := nr rfl
theorem ty152 : tys.ty 152 = .struct [17, 17, 17, 9] := nr rfl
theorem ty156 : tys.ty 156 = .int .u8 := nr rfl
theorem ty157 : tys.ty 157 = .int .u8 := nr rfl
theorem ty158 : tys.ty 158 = .func := nr rfl
theorem ty159 : tys.ty 159 = .int .i32 := nr rfl
theorem ty160 : tys.ty 160 = .int .i32 := nr rfl
theorem ty161 : tys.ty 161 = .struct [12, 12, 134, 156, 5, 5, 157, 158, 96, 159, 160] := nr rfl
theorem ty162 : tys.ty 162 = .struct [12, 12, 134, 156, 5, 5, 157, 158, 96, 159, 160] := nr rfl
theorem le3 : lends 3 = false := nr rfl
theorem le4 : lends 4 = false := nr rfl
theorem le5 : lends 5 = false := nr rfl
theorem le6 : lends 6 = false := nr rfl
theorem le7 : lends 7 = false := nr rfl
theorem le8 : lends 8 = false := nr rfl
theorem le9 : lends 9 = false := nr rfl
theorem le10 : lends 10 = false := nr rfl
theorem le11 : lends 11 = false := nr rfl
theorem le12 : lends 12 = false := nr rfl
theorem le13 : lends 13 = false := nr rfl
theorem le14 : lends 14 = true := nr rfl
theorem le15 : lends 15 = false := nr rfl
theorem le16 : lends 16 = false := nr rfl
theorem le17 : lends 17 = false := nr rfl
theorem le18 : lends 18 = false := nr rfl
theorem le19 : lends 19 = false := nr rfl
theorem le20 : lends 20 = false := nr rfl
theorem le21 : lends 21 = false := nr rfl
theorem le22 : lends 22 = false := nr rfl
theorem le23 : lends 23 = true := nr rfl
theorem le24 : lends 24 = false := nr rfl
theorem le25 : lends 25 = false := nr rfl
theorem le26 : lends 26 = false := nr rfl
theorem le27 : lends 27 = false := nr rfl
theorem le28 : lends 28 = false := nr rfl
theorem le29 : lends 29 = false := nr rfl
theorem le30 : lends 30 = false := nr rfl
theorem le31 : lends 31 = false := nr rfl
theorem le32 : lends 32 = false := nr rfl
theorem le33 : lends 33 = false := nr rfl
theorem le34 : lends 34 = false := nr rfl
theorem le35 : lends 35 = false := nr rfl
theorem le36 : lends 36 = false := nr rfl
theorem le37 : lends 37 = false := nr rfl
theorem le38 : lends 38 = false := nr rfl
theorem le39 : lends 39 = false := nr rfl
theorem le40 : lends 40 = false := nr rfl
theorem le41 : lends 41 = false := nr rfl
theorem le42 : lends 42 = false := nr rfl
theorem le43 : lends 43 = false := nr rfl
theorem le44 : lends 44 = false := nr rfl
theorem le45 : lends 45 = false := nr rfl
theorem le46 : lends 46 = false := nr rfl
theorem le47 : lends 47 = false := nr rfl
theorem le48 : lends 48 = false := nr rfl
theorem le49 : lends 49 = true := nr rfl
theorem le50 : lends 50 = false := nr rfl
theorem le51 : lends 51 = false := nr rfl
theorem le52 : lends 52 = false := nr rfl
theorem le53 : lends 53 = false := nr rfl
theorem le54 : lends 54 = false := nr rfl
theorem le55 : lends 55 = false := nr rfl
theorem le56 : lends 56 = false := nr rfl
theorem le57 : lends 57 = false := nr rfl
theorem le58 : lends 58 = false := nr rfl
theorem le59 : lends 59 = false := nr rfl
theorem le60 : lends 60 = false := nr rfl
theorem le61 : lends 61 = false := nr rfl
theorem le62 : lends 62 = false := nr rfl
theorem le63 : lends 63 = false := nr rfl
theorem le64 : lends 64 = false := nr rfl
theorem le65 : lends 65 = false := nr rfl
theorem le66 : lends 66 = false := nr rfl
theorem le67 : lends 67 = false := nr rfl
theorem le68 : lends 68 = false := nr rfl
theorem le69 : lends 69 = false := nr rfl
theorem le70 : lends 70 = false := nr rfl
theorem le71 : lends 71 = false := nr rfl
theorem le72 : lends 72 = false := nr rfl
theorem le73 : lends 73 = true := nr rfl
theorem le74 : lends 74 = false := nr rfl
theorem le75 : lends 75 = false := nr rfl
theorem le76 : lends 76 = false := nr rfl
theorem le77 : lends 77 = false := nr rfl
theorem le78 : lends 78 = false := nr rfl
theorem le79 : lends 79 = false := nr rfl
theorem le80 : lends 80 = false := nr rfl
theorem le81 : lends 81 = false := nr rfl
theorem le82 : lends 82 = false := nr rfl
theorem le83 : lends 83 = false := nr rfl
theorem le84 : lends 84 = false := nr rfl
theorem le85 : lends 85 = false := nr rfl
theorem le86 : lends 86 = false := nr rfl
theorem le87 : lends 87 = false := nr rfl
theorem le88 : lends 88 = false := nr rfl
theorem le89 : lends 89 = false := nr rfl
theorem le90 : lends 90 = false := nr rfl
theorem le91 : lends 91 = false := nr rfl
theorem le92 : lends 92 = false := nr rfl
theorem le93 : lends 93 = false := nr rfl
theorem le94 : lends 94 = false := nr rfl
theorem le95 : lends 95 = false := nr rfl
theorem le96 : lends 96 = false := nr rfl
theorem le97 : lends 97 = false := nr rfl
theorem le98 : lends 98 = false := nr rfl
theorem le99 : lends 99 = false := nr rfl
theorem le100 : lends 100 = false := nr rfl
theorem le101 : lends 101 = false := nr rfl
theorem le102 : lends 102 = false := nr rfl
theorem le103 : lends 103 = false := nr rfl
theorem le104 : lends 104 = false := nr rfl
theorem le105 : lends 105 = false := nr rfl
theorem le106 : lends 106 = false := nr rfl
theorem le107 : lends 107 = false := nr rfl
theorem le108 : lends 108 = false := nr rfl
theorem le109 : lends 109 = false := nr rfl
theorem le110 : lends 110 = false := nr rfl
theorem le111 : lends 111 = false := nr rfl
theorem le112 : lends 112 = false := nr rfl
theorem le113 : lends 113 = false := nr rfl
theorem le114 : lends 114 = false := nr rfl
theorem le115 : lends 115 = false := nr rfl
theorem le116 : lends 116 = false := nr rfl
theorem le117 : lends 117 = false := nr rfl
theorem le118 : lends 118 = false := nr rfl
theorem le119 : lends 119 = false := nr rfl
theorem le120 : lends 120 = false := nr rfl
theorem le121 : lends 121 = false := nr rfl
theorem le122 : lends 122 = false := nr rfl
theorem le123 : lends 123 = false := nr rfl
theorem le124 : lends 124 = false := nr rfl
theorem le125 : lends 125 = false := nr rfl
theorem le126 : lends 126 = false := nr rfl
theorem le127 : lends 127 = false := nr rfl
theorem le128 : lends 128 = false := nr rfl
theorem le129 : lends 129 = false := nr rfl
theorem le130 : lends 130 = false := nr rfl
theorem le131 : lends 131 = false := nr rfl
theorem le132 : lends 132 = false := nr rfl
theorem le133 : lends 133 = false := nr rfl
theorem le134 : lends 134 = false := nr rfl
theorem le135 : lends 135 = false := nr rfl
theorem le136 : lends 136 = false := nr rfl
theorem le137 : lends 137 = false := nr rfl
theorem le138 : lends 138 = false := nr rfl
theorem le139 : lends 139 = false := nr rfl
theorem le140 : lends 140 = false := nr rfl
theorem le141 : lends 141 = false := nr rfl
theorem le142 : lends 142 = false := nr rfl
theorem le143 : lends 143 = false := nr rfl
theorem le144 : lends 144 = false := nr rfl
theorem le145 : lends 145 = false := nr rfl
theorem le146 : lends 146 = false := nr rfl
theorem le147 : lends 147 = false := nr rfl
theorem le148 : lends 148 = false := nr rfl
theorem le149 : lends 149 = false := nr rfl

set_option maxRecDepth 100000 in
theorem tyOk : TyOk Tryd.prog tys := tyOk_vars (T := tysN tab nst) (tyOk_n (by kernel_rfl)) _
theorem mixed : Tryd.prog.follows .mixedOrders = true := by kernel_rfl
noncomputable def Y0 : Dv.Sys := { P := Tryd.prog, T := tys, lends := lends, base := fun _ _ _ => none }
theorem y0Ok : Dv.Sys.Ok Y0 := ⟨tyOk, mixed, fun _ _ _ _ _ h => by cases h⟩
theorem evNf (T : Tys) (s : St) (t : TypeId) : ev T s t (.const .nilFunc) = some (.konst .nilFunc) := nr rfl
theorem evNi (T : Tys) (s : St) (t : TypeId) : ev T s t (.const .nilIface) = some (.konst .nilIface) := nr rfl
theorem evNp (T : Tys) (s : St) (t : TypeId) : ev T s t (.const (.pointer none)) = some (.konst (.pointer none)) := nr rfl
theorem y0T : Y0.T = tys := nr rfl
theorem y0L : Y0.lends = lends := nr rfl
set_option maxRecDepth 10000 in
set_option linter.defProp false in
def yset0 :=
 And.intro @y0T (
 And.intro @y0L (
 And.intro @ty3 (
 And.intro @ty4 (
 And.intro @ty5 (
 And.intro @ty9 (
 And.intro @ty20 (
 And.intro @ty21 (
 And.intro @ty22 (
 And.intro @ty26 (
 And.intro @ty34 (
 And.intro @ty36 (
 And.intro @ty39 (
 And.intro @ty49 (
 And.intro @ty51 (
 And.intro @ty52 (
 And.intro @ty62 (
 And.intro @ty70 (
 And.intro @ty79 (
 And.intro @ty109 (
 And.intro @ty122 (
 And.intro @ty129 (
 And.intro @ty134 (
 And.intro @kn3 (
 And.intro @st3 (
 And.intro @sz3 (
 And.intro @zr3 (
 And.intro @kn4 (
 And.intro @st4 (
 And.intro @sz4 (
 And.intro @zr4 (
 And.intro @kn5 (
 And.intro @st5 (
 And.intro @sz5 (
 And.intro @zr5 (
 And.intro @kn9 (
 And.intro @st9 (
 And.intro @sz9 (
 And.intro @zr9 (
 And.intro @kn21 (
 And.intro @st21 (
 And.intro @sz21 (
 And.intro @zr21 (
 And.intro @kn22 (
 And.intro @st22 (
 And.intro @sz22 (
 And.intro @zr22 (
 And.intro @kn26 (
 And.intro @st26 (
 And.intro @sz26 (
 And.intro @zr26 (
 And.intro @kn34 (
 And.intro @st34 (
 And.intro @sz34 (
 And.intro @zr34 (
 And.intro @kn36 (
 And.intro @st36 (
 And.intro @sz36 (
 And.intro @zr36 (
 And.intro @kn39 (
 And.intro @st39 (
 And.intro @sz39 (
 And.intro @zr39 (
 And.intro @kn49 (
 And.intro @st49 (
 And.intro @sz49 (
 And.intro @zr49 (
 And.intro @kn51 (
 And.intro @st51 (
 And.intro @sz51 (
 And.intro @zr51 (
 And.intro @kn52 (
 And.intro @st52 (
 And.intro @sz52 (
 And.intro @zr52 (
 And.intro @kn70 (
 And.intro @st70 (
 And.intro @sz70 (
 And.intro @zr70 (
 And.intro @kn79 (
 And.intro @st79 (
 And.intro @sz79 (
 And.intro @zr79 (
 And.intro @kn109 (
 And.intro @st109 (
 And.intro @sz109 (
 And.intro @zr109 (
 And.intro @kn122 (
 And.intro @st122 (
 And.intro @sz122 (
 And.intro @zr122 (
 And.intro @kn129 (
 And.intro @st129 (
 And.intro @sz129 (
 And.intro @zr129 (
 And.intro @kn134 (
 And.intro @st134 (
 And.intro @sz134 (
 And.intro @zr134 (
 And.intro @ne36 (
 And.intro @ne39 (
 And.intro @ne49 (
 And.intro @ne51 (
 And.intro @zo3 (
 And.intro @zo4 (
 And.intro @zo5 (
 And.intro @zo9 (
 And.intro @zo21 (
 And.intro @zo22 (
 And.intro @zo26 (
 And.intro @zo34 (
 And.intro @zo52 (
 And.intro @zo70 (
 And.intro @zo79 (
 And.intro @zo109 (
 And.intro @zo122 (
 And.intro @zo129 (
 And.intro @zo134 (
 And.intro @le3 (
 And.intro @le4 (
 And.intro @le5 (
 And.intro @le6 (
 And.intro @le7 (
 And.intro @le8 (
 And.intro @le9 (
 And.intro @le10 (
 And.intro @le11 (
 And.intro @le12 (
 And.intro @le13 (
 And.intro @le14 (
 And.intro @le15 (
 And.intro @le16 (
 And.intro @le17 (
 And.intro @le18 (
 And.intro @le19 (
 And.intro @le20 (
 And.intro @le21 (
 And.intro @le22 (
 And.intro @le23 (
 And.intro @le24 (
 And.intro @le25 (
 And.intro @le26 (
 And.intro @le27 (
 And.intro @le28 (
 And.intro @le29 (
 And.intro @le30 (
 And.intro @le31 (
 And.intro @le32 (
 And.intro @le33 (
 And.intro @le34 (
 And.intro @le35 (
 And.intro @le36 (
 And.intro @le37 (
 And.intro @le38 (
 And.intro @le39 (
 And.intro @le40 (
 And.intro @le41 (
 And.intro @le42 (
 And.intro @le43 (
 And.intro @le44 (
 And.intro @le45 (
 And.intro @le46 (
 And.intro @le47 (
 And.intro @le48 (
 And.intro @le49 (
 And.intro @le50 (
 And.intro @le51 (
 And.intro @le52 (
 And.intro @le53 (
 And.intro @le54 (
 And.intro @le55 (
 And.intro @le56 (
 And.intro @le57 (
 And.intro @le58 (
 And.intro @le59 (
 And.intro @le60 (
 And.intro @le61 (
 And.intro @le62 (
 And.intro @le63 (
 And.intro @le64 (
 And.intro @le65 (
 And.intro @le66 (
 And.intro @le67 (
 And.intro @le68 (
 And.intro @le69 (
 And.intro @le70 (
 And.intro @le71 (
 And.intro @le72 (
 And.intro @le73 (
 And.intro @le74 (
 And.intro @le75 (
 And.intro @le76 (
 And.intro @le77 (
 And.intro @le78 (
 And.intro @le79 (
 And.intro @le80 (
 And.intro @le81 (
 And.intro @le82 (
 And.intro @le83 (
 And.intro @le84 (
 And.intro @le85 (
 And.intro @le86 (
 And.intro @le87 (
 And.intro @le88 (
 And.intro @le89 (
 And.intro @le90 (
 And.intro @le91 (
 And.intro @le92 (
 And.intro @le93 (
 And.intro @le94 (
 And.intro @le95 (
 And.intro @le96 (
 And.intro @le97 (
 And.intro @le98 (
 And.intro @le99 (
 And.intro @le100 (
 And.intro @le101 (
 And.intro @le102 (
 And.intro @le103 (
 And.intro @le104 (
 And.intro @le105 (
 And.intro @le106 (
 And.intro @le107 (
 And.intro @le108 (
 And.intro @le109 (
 And.intro @le110 (
 And.intro @le111 (
 And.intro @le112 (
 And.intro @le113 (
 And.intro @le114 (
 And.intro @le115 (
 And.intro @le116 (
 And.intro @le117 (
 And.intro @le118 (
 And.intro @le119 (
 And.intro @le120 (
 And.intro @le121 (
 And.intro @le122 (
 And.intro @le123 (
 And.intro @le124 (
 And.intro @le125 (
 And.intro @le126 (
 And.intro @le127 (
 And.intro @le128 (
 And.intro @le129 (
 And.intro @le130 (
 And.intro @le131 (
 And.intro @le132 (
 And.intro @le133 (
 And.intro @le134 (
 And.intro @le135 (
 And.intro @le136 (
 And.intro @le137 (
 And.intro @le138 (
 And.intro @le139 (
 And.intro @le140 (
 And.intro @le141 (
 And.intro @le142 (
 And.intro @le143 (
 And.intro @le144 (
 And.intro @le145 (
 And.intro @le146 (
 And.intro @le147 (
 And.intro @le148 (@le149))))))))))))))))))))))))))))))))))))))))))))))))))))))))))))))))))))))))))))))))))))))))))))))))))))))))))))))))))))))))))))))))))))))))))))))))))))))))))))))))))))))))))))))))))))))))))))))))))))))))))))))))))))))))))))))))))))))))))))))))))))))))))))))))))))))))
/-- Calls that are known by other means. -/
def hooks (f : FuncId) (a l : List D) : Option (D × List D) :=
 match f, a, l with
 | _, _, _ => none
theorem hooksOk : ∀ f a l r outs, hooks f a l = some (r, outs) → Dv.Good Tryd.prog tys f a l r outs := by
 intro f a l r outs h
 unfold hooks at h
 split at h
 ·cases h
theorem itoaGood : ∀ n : Int, -9223372036854775808 ≤ n ∧ n ≤ 9223372036854775807 → Dv.Good Tryd.prog tys 29 [.int .i64 n] [] (.str (itoaB n)) [] := fun n h =>
 good_itoa (g := 2) ⟨Tryd.f29, Tryd.func29, rfl, by decide⟩ (by kernel_rfl) (.head _) (fun n h0 h1 w ht => Tryd.strconv_Itoa n h0 h1 w ht) n h
theorem joinGood : ∀ (xs : List ByteArray) (sep : ByteArray), xs.length < 1099511627776 → (joinB xs sep).size < 1099511627776 → Dv.Good Tryd.prog tys 31 [.sl 9 (lst D.str xs), .str sep] [] (.str (joinB xs sep)) [] := fun xs sep h1 h2 =>
 good_join ⟨Tryd.f31, Tryd.func31, rfl, by decide⟩ sz9 (fun a c sep w => Tryd.strings_Join_none a c sep w) (fun bk o c xs sep w h1 h2 h3 h4 h5 => Tryd.strings_Join bk o c xs sep w h1 h2 h3 h4 h5) xs sep h1 h2
theorem splitGood : ∀ (s sep : ByteArray), s.size < 4294967281 → 1 ≤ sep.size → Dv.Good Tryd.prog tys 36 [.str s, .str sep] [] (.own 9 (lst D.str (splitS s sep))) [] := fun s sep h1 h2 =>
 good_split (g := 3) ⟨Tryd.f36, Tryd.func36, rfl, by decide⟩ sz9 (.tail _ (.head _)) (fun s sep m w h0 h1 h2 => Tryd.strings_Split s sep m w h0 h1 h2) s sep h1 h2
noncomputable def Y : Dv.Sys := { P := Tryd.prog, T := tys, lends := lends, base := orHook (splitHook 36 9) (orHook (joinHook 31 9) (orHook (itoaHook 29) (hooks))) }
theorem yOk : Dv.Sys.Ok Y := ⟨tyOk, mixed, orHook_good (splitHook_good splitGood) (orHook_good (joinHook_good joinGood) (orHook_good (itoaHook_good itoaGood) (hooksOk)))⟩
theorem ty900013 : tys.ty 900013 = .other := nr rfl
theorem yT : Y.T = tys := nr rfl
theorem yL : Y.lends = lends := nr rfl
set_option maxRecDepth 10000 in
set_option linter.defProp false in
def yset :=
 And.intro @ty900013 (
 And.intro @yT (
 And.intro @yL (
 And.intro @evNf (
 And.intro @evNi (
 And.intro @evNp (
 And.intro @ty3 (
 And.intro @ty4 (
 And.intro @ty5 (
 And.intro @ty9 (
 And.intro @ty20 (
 And.intro @ty21 (
 And.intro @ty22 (
 And.intro @ty26 (
 And.intro @ty34 (
 And.intro @ty36 (
 And.intro @ty39 (
 And.intro @ty49 (
 And.intro @ty51 (
 And.intro @ty52 (
 And.intro @ty62 (
 And.intro @ty70 (
 And.intro @ty79 (
 And.intro @ty109 (
 And.intro @ty122 (
 And.intro @ty129 (
 And.intro @ty134 (
 And.intro @kn3 (
 And.intro @st3 (
 And.intro @sz3 (
 And.intro @zr3 (
 And.intro @kn4 (
 And.intro @st4 (
 And.intro @sz4 (
 And.intro @zr4 (
 And.intro @kn5 (
 And.intro @st5 (
 And.intro @sz5 (
 And.intro @zr5 (
 And.intro @kn9 (
 And.intro @st9 (
 And.intro @sz9 (
 And.intro @zr9 (
 And.intro @kn21 (
 And.intro @st21 (
 And.intro @sz21 (
 And.intro @zr21 (
 And.intro @kn22 (
 And.intro @st22 (
 And.intro @sz22 (
 And.intro @zr22 (
 And.intro @kn26 (
 And.intro @st26 (
 And.intro @sz26 (
 And.intro @zr26 (
 And.intro @kn34 (
 And.intro @st34 (
 And.intro @sz34 (
 And.intro @zr34 (
 And.intro @kn36 (
 And.intro @st36 (
 And.intro @sz36 (
 And.intro @zr36 (
 And.intro @kn39 (
 And.intro @st39 (
 And.intro @sz39 (
 And.intro @zr39 (
 And.intro @kn49 (
 And.intro @st49 (
 And.intro @sz49 (
 And.intro @zr49 (
 And.intro @kn51 (
 And.intro @st51 (
 And.intro @sz51 (
 And.intro @zr51 (
 And.intro @kn52 (
 And.intro @st52 (
 And.intro @sz52 (
 And.intro @zr52 (
 And.intro @kn70 (
 And.intro @st70 (
 And.intro @sz70 (
 And.intro @zr70 (
 And.intro @kn79 (
 And.intro @st79 (
 And.intro @sz79 (
 And.intro @zr79 (
 And.intro @kn109 (
 And.intro @st109 (
 And.intro @sz109 (
 And.intro @zr109 (
 And.intro @kn122 (
 And.intro @st122 (
 And.intro @sz122 (
 And.intro @zr122 (
 And.intro @kn129 (
 And.intro @st129 (
 And.intro @sz129 (
 And.intro @zr129 (
 And.intro @kn134 (
 And.intro @st134 (
 And.intro @sz134 (
 And.intro @zr134 (
 And.intro @ne36 (
 And.intro @ne39 (
 And.intro @ne49 (
 And.intro @ne51 (
 And.intro @zo3 (
 And.intro @zo4 (
 And.intro @zo5 (
 And.intro @zo9 (
 And.intro @zo21 (
 And.intro @zo22 (
 And.intro @zo26 (
 And.intro @zo34 (
 And.intro @zo52 (
 And.intro @zo70 (
 And.intro @zo79 (
 And.intro @zo109 (
 And.intro @zo122 (
 And.intro @zo129 (
 And.intro @zo134 (
 And.intro @le3 (
 And.intro @le4 (
 And.intro @le5 (
 And.intro @le6 (
 And.intro @le7 (
 And.intro @le8 (
 And.intro @le9 (
 And.intro @le10 (
 And.intro @le11 (
 And.intro @le12 (
 And.intro @le13 (
 And.intro @le14 (
 And.intro @le15 (
 And.intro @le16 (
 And.intro @le17 (
 And.intro @le18 (
 And.intro @le19 (
 And.intro @le20 (
 And.intro @le21 (
 And.intro @le22 (
 And.intro @le23 (
 And.intro @le24 (
 And.intro @le25 (
 And.intro @le26 (
 And.intro @le27 (
 And.intro @le28 (
 And.intro @le29 (
 And.intro @le30 (
 And.intro @le31 (
 And.intro @le32 (
 And.intro @le33 (
 And.intro @le34 (
 And.intro @le35 (
 And.intro @le36 (
 And.intro @le37 (
 And.intro @le38 (
 And.intro @le39 (
 And.intro @le40 (
 And.intro @le41 (
 And.intro @le42 (
 And.intro @le43 (
 And.intro @le44 (
 And.intro @le45 (
 And.intro @le46 (
 And.intro @le47 (
 And.intro @le48 (
 And.intro @le49 (
 And.intro @le50 (
 And.intro @le51 (
 And.intro @le52 (
 And.intro @le53 (
 And.intro @le54 (
 And.intro @le55 (
 And.intro @le56 (
 And.intro @le57 (
 And.intro @le58 (
 And.intro @le59 (
 And.intro @le60 (
 And.intro @le61 (
 And.intro @le62 (
 And.intro @le63 (
 And.intro @le64 (
 And.intro @le65 (
 And.intro @le66 (
 And.intro @le67 (
 And.intro @le68 (
 And.intro @le69 (
 And.intro @le70 (
 And.intro @le71 (
 And.intro @le72 (
 And.intro @le73 (
 And.intro @le74 (
 And.intro @le75 (
 And.intro @le76 (
 And.intro @le77 (
 And.intro @le78 (
 And.intro @le79 (
 And.intro @le80 (
 And.intro @le81 (
 And.intro @le82 (
 And.intro @le83 (
 And.intro @le84 (
 And.intro @le85 (
 And.intro @le86 (
 And.intro @le87 (
 And.intro @le88 (
 And.intro @le89 (
 And.intro @le90 (
 And.intro @le91 (
 And.intro @le92 (
 And.intro @le93 (
 And.intro @le94 (
 And.intro @le95 (
 And.intro @le96 (
 And.intro @le97 (
 And.intro @le98 (
 And.intro @le99 (
 And.intro @le100 (
 And.intro @le101 (
 And.intro @le102 (
 And.intro @le103 (
 And.intro @le104 (
 And.intro @le105 (
 And.intro @le106 (
 And.intro @le107 (
 And.intro @le108 (
 And.intro @le109 (
 And.intro @le110 (
 And.intro @le111 (
 And.intro @le112 (
 And.intro @le113 (
 And.intro @le114 (
 And.intro @le115 (
 And.intro @le116 (
 And.intro @le117 (
 And.intro @le118 (
 And.intro @le119 (
 And.intro @le120 (
 And.intro @le121 (
 And.intro @le122 (
 And.intro @le123 (
 And.intro @le124 (
 And.intro @le125 (
 And.intro @le126 (
 And.intro @le127 (
 And.intro @le128 (
 And.intro @le129 (
 And.intro @le130 (
 And.intro @le131 (
 And.intro @le132 (
 And.intro @le133 (
 And.intro @le134 (
 And.intro @le135 (
 And.intro @le136 (
 And.intro @le137 (
 And.intro @le138 (
 And.intro @le139 (
 And.intro @le140 (
 And.intro @le141 (
 And.intro @le142 (
 And.intro @le143 (
 And.intro @le144 (
 And.intro @le145 (
 And.intro @le146 (
 And.intro @le147 (
 And.intro @le148 (@le149))))))))))))))))))))))))))))))))))))))))))))))))))))))))))))))))))))))))))))))))))))))))))))))))))))))))))))))))))))))))))))))))))))))))))))))))))))))))))))))))))))))))))))))))))))))))))))))))))))))))))))))))))))))))))))))))))))))))))))))))))))))))))))))))))))))))))))
theorem itoa_29 (n : Int) (h : -9223372036854775808 ≤ n ∧ n ≤ 9223372036854775807) : Y.call 29 [.int .i64 n] [] = some (.str (itoaB n), []) := Dv.Sys.call_base (orHook_right (h := splitHook 36 9) rfl <| orHook_right (h := joinHook 31 9) rfl <| orHook_left (h := itoaHook 29) <| itoaHook_eq 29 n h)
theorem join_31 (xs : List ByteArray) (sep : ByteArray) (h : xs.length < 1099511627776 ∧ (joinB xs sep).size < 1099511627776) : Y.call 31 [.sl 9 (lst D.str xs), .str sep] [] = some (.str (joinB xs sep), []) := Dv.Sys.call_base (orHook_right (h := splitHook 36 9) rfl <| orHook_left (h := joinHook 31 9) <| joinHook_eq 31 9 xs sep h)
theorem split_36 (s sep : ByteArray) (h : s.size < 4294967281 ∧ 1 ≤ sep.size) : Y.call 36 [.str s, .str sep] [] = some (.own 9 (lst D.str (splitS s sep)), []) := Dv.Sys.call_base (orHook_left (h := splitHook 36 9) <| splitHook_eq 36 9 s sep h)
end Go.Proofs.YtaogbcdlpgfplaaDoor
