/- The types of this seat as data, and the system of its calls. Conditions: none. -/
import Derived.Test.YtclkfhhdikfcpaaRows
import Derived.Test.YtclkfhhdikfcpaaL6
import Derived.Test.YtclkfhhdikfcpaaSv
import Derived.KernelRfl
namespace Go.Proofs.Ytclkfhhdikfcpaa
open Go Dv
set_option linter.unusedSimpArgs false
set_option maxRecDepth 100000
def qf:List Ty:=[.other,.func,.int .i64,.int .i64,.bool,.int .u8,.int .u8,.struct [2,3,4,6],.struct [2,3,4,6],.string,.string,.string,.int .u64,.struct [9,12],.struct [9,12],.ptr,.ptr,.ptr,.struct [17],.struct [17],.other,.int .i32,.slice 26,.struct [3,3,22,22],.struct [3,3,22,22],.func,.slice 3,.other,.func,.struct [3,3,22,22],.func,.func,.func,.func,.func,.func,.other,.func,.func,.slice 121,.struct [39,26,26],.struct [39,26,26],.func,.other,.func,.slice 123,.struct [45,26,26],.struct [45,26,26],.func,.func,.func,.other,.func,.func,.func,.func,.struct [3,26,3,3],.struct [3,26,3,3],.other,.func,.func,.func,.struct [3,26,3,3],.func,.func,.func,.func,.func,.slice 4,.func,.struct [3,3,22,22,3,3,22,22,68,68],.struct [3,3,22,22,3,3,22,22,68,68],.func,.func,.func,.ptr,.struct [3,3,22,22,3,3,22,22,26],.struct [3,3,22,22,3,3,22,22,26],.func,.func,.func,.func,.func,.func,.func,.func,.func,.func,.func,.func,.func,.func,.func,.func,.func,.func,.func,.other,.func,.func,.other,.func,.func,.func,.func,.func,.func,.func,.func,.func,.int .u64,.func,.func,.func,.func,.slice 22,.other,.func,.func,.func,.func,.slice 159,.func,.slice 125,.struct [3,3],.struct [3,3],.func,.func,.func,.func,.func,.func,.func,.func,.func,.slice 137,.struct [3,3,3,3],.struct [3,3,3,3],.func,.func,.func,.func,.func,.func,.map 3 3,.func,.func,.func,.func,.func,.func,.int .u32,.other,.func,.int .u64,.other,.func,.func,.func,.struct [3,3],.func,.func,.map 164 3,.arr 14 3,.arr 14 3,.func,.func,.func,.func,.func,.func,.func,.func,.func,.func,.func,.func,.func,.func,.func,.int .i64,.other,.func,.func,.func,.func,.func,.int .u64,.func,.func,.func,.ptr,.func,.ptr,.other,.func,.func,.struct [17,17,17,9],.struct [17,17,17,9],.other,.other,.other,.func,.int .u8,.int .u8,.func,.ptr,.int .i32,.int .i32,.struct [12,12,151,203,5,5,204,205,206,207,208],.struct [12,12,151,203,5,5,204,205,206,207,208],.func]
def vF:List (TypeId×List (Nat×TypeId)):=[(70,[(0,29),(4,29),(8,68),(9,68)]),(71,[(0,29),(4,29),(8,68),(9,68)]),(76,[(0,29),(4,29),(8,26)]),(77,[(0,29),(4,29),(8,26)]),(163,[(0,3),(1,3),(2,3),(3,3),(4,3),(5,3),(6,3),(7,3),(8,3),(9,3),(10,3),(11,3),(12,3),(13,3)]),(164,[(0,3),(1,3),(2,3),(3,3),(4,3),(5,3),(6,3),(7,3),(8,3),(9,3),(10,3),(11,3),(12,3),(13,3)])]
def Ag:Tys:=jr qf vF
def lends(f:FuncId):Bool:=[16,17,30,34,47,49,79,88,120,128,152,213].contains f
theorem ty1:Ag.ty 1= .func:=nr rfl
theorem ty2:Ag.ty 2= .int .i64:=nr rfl
theorem ty3:Ag.ty 3= .int .i64:=nr rfl
theorem kn3:Ag.known 3=true:=nr rfl
theorem st3:Ag.isStruct 3=false:=nr rfl
theorem zr3:Ag.zeros 3=[.int .i64 0]:=nr rfl
theorem zo3:Ag.zero1 3= .int .i64 0:=nr rfl
theorem sz3:Ag.size 3=1:=nr rfl
theorem ty4:Ag.ty 4= .bool:=nr rfl
theorem kn4:Ag.known 4=true:=nr rfl
theorem st4:Ag.isStruct 4=false:=nr rfl
theorem zr4:Ag.zeros 4=[.bool false]:=nr rfl
theorem zo4:Ag.zero1 4= .bool false:=nr rfl
theorem sz4:Ag.size 4=1:=nr rfl
theorem ty5:Ag.ty 5= .int .u8:=nr rfl
theorem kn5:Ag.known 5=true:=nr rfl
theorem st5:Ag.isStruct 5=false:=nr rfl
theorem zr5:Ag.zeros 5=[.int .u8 0]:=nr rfl
theorem zo5:Ag.zero1 5= .int .u8 0:=nr rfl
theorem sz5:Ag.size 5=1:=nr rfl
theorem ty6:Ag.ty 6= .int .u8:=nr rfl
theorem ty7:Ag.ty 7= .struct [2,3,4,6]:=nr rfl
theorem ty8:Ag.ty 8= .struct [2,3,4,6]:=nr rfl
theorem ty9:Ag.ty 9= .string:=nr rfl
theorem AKR:Ag.ty 10= .string:=nr rfl
theorem AKS:Ag.ty 11= .string:=nr rfl
theorem AKT:Ag.ty 12= .int .u64:=nr rfl
theorem AKU:Ag.ty 13= .struct [9,12]:=nr rfl
theorem AKV:Ag.ty 14= .struct [9,12]:=nr rfl
theorem AKW:Ag.ty 15= .ptr:=nr rfl
theorem AKX:Ag.ty 16= .ptr:=nr rfl
theorem AKY:Ag.ty 17= .ptr:=nr rfl
theorem AKZ:Ag.ty 18= .struct [17]:=nr rfl
theorem AKa:Ag.ty 19= .struct [17]:=nr rfl
theorem AKb:Ag.ty 21= .int .i32:=nr rfl
theorem A76:Ag.ty 22= .slice 26:=nr rfl
theorem A77:Ag.known 22=true:=nr rfl
theorem A78:Ag.isStruct 22=false:=nr rfl
theorem A79:Ag.zeros 22=[.own 26 []]:=nr rfl
theorem A7A:Ag.zero1 22= .own 26 []:=nr rfl
theorem A7B:Ag.size 22=1:=nr rfl
theorem AKc:Ag.ty 23= .struct [3,3,22,22]:=nr rfl
theorem A7C:Ag.ty 24= .struct [3,3,22,22]:=nr rfl
theorem A7D:Ag.known 24=true:=nr rfl
theorem A7E:Ag.isStruct 24=true:=nr rfl
theorem A7F:Ag.zeros 24=[.int .i64 0,.int .i64 0,.own 26 [],.own 26 []]:=nr rfl
theorem A7G:Ag.nest 24=none:=nr rfl
theorem A7H:Ag.size 24=4:=nr rfl
theorem AKd:Ag.ty 25= .func:=nr rfl
theorem A2O:Ag.ty 26= .slice 3:=nr rfl
theorem A2P:Ag.known 26=true:=nr rfl
theorem A7I:Ag.isStruct 26=false:=nr rfl
theorem A7J:Ag.zeros 26=[.own 3 []]:=nr rfl
theorem A7K:Ag.zero1 26= .own 3 []:=nr rfl
theorem A2Q:Ag.size 26=1:=nr rfl
theorem AKe:Ag.ty 28= .func:=nr rfl
theorem A7L:Ag.ty 29= .struct [3,3,22,22]:=nr rfl
theorem A7M:Ag.known 29=true:=nr rfl
theorem A7N:Ag.isStruct 29=true:=nr rfl
theorem A7O:Ag.zeros 29=[.int .i64 0,.int .i64 0,.own 26 [],.own 26 []]:=nr rfl
theorem A7P:Ag.nest 29=none:=nr rfl
theorem A7Q:Ag.size 29=4:=nr rfl
theorem AKf:Ag.ty 30= .func:=nr rfl
theorem AKg:Ag.ty 31= .func:=nr rfl
theorem AKh:Ag.ty 32= .func:=nr rfl
theorem AKi:Ag.ty 33= .func:=nr rfl
theorem AKj:Ag.ty 34= .func:=nr rfl
theorem AKk:Ag.ty 35= .func:=nr rfl
theorem AKl:Ag.ty 37= .func:=nr rfl
theorem AKm:Ag.ty 38= .func:=nr rfl
theorem A2R:Ag.ty 39= .slice 121:=nr rfl
theorem A7R:Ag.known 39=true:=nr rfl
theorem A7S:Ag.isStruct 39=false:=nr rfl
theorem A7T:Ag.zeros 39=[.own 121 []]:=nr rfl
theorem A7U:Ag.zero1 39= .own 121 []:=nr rfl
theorem A7V:Ag.size 39=1:=nr rfl
theorem AKn:Ag.ty 40= .struct [39,26,26]:=nr rfl
theorem A2S:Ag.ty 41= .struct [39,26,26]:=nr rfl
theorem A7W:Ag.known 41=true:=nr rfl
theorem A7X:Ag.isStruct 41=true:=nr rfl
theorem A7Y:Ag.zeros 41=[.own 121 [],.own 3 [],.own 3 []]:=nr rfl
theorem A7Z:Ag.nest 41=none:=nr rfl
theorem A7a:Ag.size 41=3:=nr rfl
theorem AKo:Ag.ty 42= .func:=nr rfl
theorem AKp:Ag.ty 44= .func:=nr rfl
theorem A7b:Ag.ty 45= .slice 123:=nr rfl
theorem A7c:Ag.known 45=true:=nr rfl
theorem A7d:Ag.isStruct 45=false:=nr rfl
theorem A7e:Ag.zeros 45=[.own 123 []]:=nr rfl
theorem A7f:Ag.zero1 45= .own 123 []:=nr rfl
theorem A7g:Ag.size 45=1:=nr rfl
theorem AKq:Ag.ty 46= .struct [45,26,26]:=nr rfl
theorem A7h:Ag.ty 47= .struct [45,26,26]:=nr rfl
theorem A7i:Ag.known 47=true:=nr rfl
theorem A7j:Ag.isStruct 47=true:=nr rfl
theorem A7k:Ag.zeros 47=[.own 123 [],.own 3 [],.own 3 []]:=nr rfl
theorem A7l:Ag.nest 47=none:=nr rfl
theorem A7m:Ag.size 47=3:=nr rfl
theorem AKr:Ag.ty 48= .func:=nr rfl
theorem AKs:Ag.ty 49= .func:=nr rfl
theorem AKt:Ag.ty 50= .func:=nr rfl
theorem AKu:Ag.ty 52= .func:=nr rfl
theorem AKv:Ag.ty 53= .func:=nr rfl
theorem AKw:Ag.ty 54= .func:=nr rfl
theorem AKx:Ag.ty 55= .func:=nr rfl
theorem AKy:Ag.ty 56= .struct [3,26,3,3]:=nr rfl
theorem A7n:Ag.ty 57= .struct [3,26,3,3]:=nr rfl
theorem A7o:Ag.known 57=true:=nr rfl
theorem A7p:Ag.isStruct 57=true:=nr rfl
theorem A7q:Ag.zeros 57=[.int .i64 0,.own 3 [],.int .i64 0,.int .i64 0]:=nr rfl
theorem A7r:Ag.nest 57=none:=nr rfl
theorem A7s:Ag.size 57=4:=nr rfl
theorem AKz:Ag.ty 59= .func:=nr rfl
theorem AL0:Ag.ty 60= .func:=nr rfl
theorem AL1:Ag.ty 61= .func:=nr rfl
theorem A7t:Ag.ty 62= .struct [3,26,3,3]:=nr rfl
theorem A7u:Ag.known 62=true:=nr rfl
theorem A7v:Ag.isStruct 62=true:=nr rfl
theorem A7w:Ag.zeros 62=[.int .i64 0,.own 3 [],.int .i64 0,.int .i64 0]:=nr rfl
theorem A7x:Ag.nest 62=none:=nr rfl
theorem A7y:Ag.size 62=4:=nr rfl
theorem AL2:Ag.ty 63= .func:=nr rfl
theorem AL3:Ag.ty 64= .func:=nr rfl
theorem AL4:Ag.ty 65= .func:=nr rfl
theorem AL5:Ag.ty 66= .func:=nr rfl
theorem AL6:Ag.ty 67= .func:=nr rfl
theorem A7z:Ag.ty 68= .slice 4:=nr rfl
theorem A80:Ag.known 68=true:=nr rfl
theorem A81:Ag.isStruct 68=false:=nr rfl
theorem A82:Ag.zeros 68=[.own 4 []]:=nr rfl
theorem A83:Ag.zero1 68= .own 4 []:=nr rfl
theorem A84:Ag.size 68=1:=nr rfl
theorem AL7:Ag.ty 69= .func:=nr rfl
theorem AL8:Ag.ty 70= .struct [3,3,22,22,3,3,22,22,68,68]:=nr rfl
theorem A85:Ag.ty 71= .struct [3,3,22,22,3,3,22,22,68,68]:=nr rfl
theorem A86:Ag.known 71=true:=nr rfl
theorem A87:Ag.isStruct 71=true:=nr rfl
theorem A88:Ag.zeros 71=[.int .i64 0,.int .i64 0,.own 26 [],.own 26 [],.int .i64 0,.int .i64 0,.own 26 [],.own 26 [],.own 4 [],.own 4 []]:=nr rfl
theorem A89:Ag.nest 71=some [(0,29),(4,29),(8,68),(9,68)]:=nr rfl
theorem oG:Ag.foff 71 0=some 0:=nr rfl
theorem oH:Ag.foff 71 1=some 4:=nr rfl
theorem oJ:Ag.foff 71 2=some 8:=nr rfl
theorem oK:Ag.foff 71 3=some 9:=nr rfl
theorem A8A:Ag.size 71=10:=nr rfl
theorem AL9:Ag.ty 72= .func:=nr rfl
theorem ALA:Ag.ty 73= .func:=nr rfl
theorem ALB:Ag.ty 74= .func:=nr rfl
theorem A8B:Ag.ty 75= .ptr:=nr rfl
theorem A8C:Ag.known 75=true:=nr rfl
theorem A8D:Ag.isStruct 75=false:=nr rfl
theorem A8E:Ag.zeros 75=[.konst (.pointer none)]:=nr rfl
theorem A8F:Ag.zero1 75= .konst (.pointer none):=nr rfl
theorem A8G:Ag.size 75=1:=nr rfl
theorem ALC:Ag.ty 76= .struct [3,3,22,22,3,3,22,22,26]:=nr rfl
theorem A8H:Ag.ty 77= .struct [3,3,22,22,3,3,22,22,26]:=nr rfl
theorem A8I:Ag.known 77=true:=nr rfl
theorem A8J:Ag.isStruct 77=true:=nr rfl
theorem A8K:Ag.zeros 77=[.int .i64 0,.int .i64 0,.own 26 [],.own 26 [],.int .i64 0,.int .i64 0,.own 26 [],.own 26 [],.own 3 []]:=nr rfl
theorem A8L:Ag.nest 77=some [(0,29),(4,29),(8,26)]:=nr rfl
theorem oO:Ag.foff 77 0=some 0:=nr rfl
theorem oP:Ag.foff 77 1=some 4:=nr rfl
theorem oQ:Ag.foff 77 2=some 8:=nr rfl
theorem A8M:Ag.size 77=9:=nr rfl
theorem ALD:Ag.ty 78= .func:=nr rfl
theorem ALE:Ag.ty 79= .func:=nr rfl
theorem ALF:Ag.ty 80= .func:=nr rfl
theorem ALG:Ag.ty 81= .func:=nr rfl
theorem ALH:Ag.ty 82= .func:=nr rfl
theorem ALI:Ag.ty 83= .func:=nr rfl
theorem ALJ:Ag.ty 84= .func:=nr rfl
theorem ALK:Ag.ty 85= .func:=nr rfl
theorem ALM:Ag.ty 86= .func:=nr rfl
theorem A8N:Ag.ty 87= .func:=nr rfl
theorem A8O:Ag.known 87=true:=nr rfl
theorem A8P:Ag.isStruct 87=false:=nr rfl
theorem A8Q:Ag.zeros 87=[.konst .nilFunc]:=nr rfl
theorem A8R:Ag.zero1 87= .konst .nilFunc:=nr rfl
theorem A8S:Ag.size 87=1:=nr rfl
theorem ALN:Ag.ty 88= .func:=nr rfl
theorem ALO:Ag.ty 89= .func:=nr rfl
theorem ALP:Ag.ty 90= .func:=nr rfl
theorem ALQ:Ag.ty 91= .func:=nr rfl
theorem ALR:Ag.ty 92= .func:=nr rfl
theorem ALS:Ag.ty 93= .func:=nr rfl
theorem ALT:Ag.ty 94= .func:=nr rfl
theorem ALU:Ag.ty 95= .func:=nr rfl
theorem A8T:Ag.ty 96= .func:=nr rfl
theorem A8U:Ag.known 96=true:=nr rfl
theorem A8V:Ag.isStruct 96=false:=nr rfl
theorem A8W:Ag.zeros 96=[.konst .nilFunc]:=nr rfl
theorem A8X:Ag.zero1 96= .konst .nilFunc:=nr rfl
theorem A8Y:Ag.size 96=1:=nr rfl
theorem ALV:Ag.ty 98= .func:=nr rfl
theorem ALW:Ag.ty 99= .func:=nr rfl
theorem AHX:Ag.ty 101= .func:=nr rfl
theorem AHY:Ag.ty 102= .func:=nr rfl
theorem AHZ:Ag.ty 103= .func:=nr rfl
theorem AHa:Ag.ty 104= .func:=nr rfl
theorem AHb:Ag.ty 105= .func:=nr rfl
theorem AHc:Ag.ty 106= .func:=nr rfl
theorem AHd:Ag.ty 107= .func:=nr rfl
theorem AHe:Ag.ty 108= .func:=nr rfl
theorem AHf:Ag.ty 109= .func:=nr rfl
theorem vK:Ag.ty 110= .int .u64:=nr rfl
theorem vL:Ag.known 110=true:=nr rfl
theorem vM:Ag.isStruct 110=false:=nr rfl
theorem vN:Ag.zeros 110=[.int .u64 0]:=nr rfl
theorem vO:Ag.zero1 110= .int .u64 0:=nr rfl
theorem vP:Ag.size 110=1:=nr rfl
theorem AHg:Ag.ty 111= .func:=nr rfl
theorem AHh:Ag.ty 112= .func:=nr rfl
theorem AHi:Ag.ty 113= .func:=nr rfl
theorem AHj:Ag.ty 114= .func:=nr rfl
theorem vQ:Ag.ty 115= .slice 22:=nr rfl
theorem vR:Ag.known 115=true:=nr rfl
theorem vS:Ag.isStruct 115=false:=nr rfl
theorem vT:Ag.zeros 115=[.own 22 []]:=nr rfl
theorem vU:Ag.zero1 115= .own 22 []:=nr rfl
theorem vV:Ag.size 115=1:=nr rfl
theorem AHk:Ag.ty 117= .func:=nr rfl
theorem AHl:Ag.ty 118= .func:=nr rfl
theorem AHm:Ag.ty 119= .func:=nr rfl
theorem AHn:Ag.ty 120= .func:=nr rfl
theorem oU:Ag.ty 121= .slice 159:=nr rfl
theorem vW:Ag.known 121=true:=nr rfl
theorem vX:Ag.isStruct 121=false:=nr rfl
theorem vY:Ag.zeros 121=[.own 159 []]:=nr rfl
theorem vZ:Ag.zero1 121= .own 159 []:=nr rfl
theorem vg:Ag.size 121=1:=nr rfl
theorem AHo:Ag.ty 122= .func:=nr rfl
theorem vk:Ag.ty 123= .slice 125:=nr rfl
theorem vo:Ag.known 123=true:=nr rfl
theorem vz:Ag.isStruct 123=false:=nr rfl
theorem w9:Ag.zeros 123=[.own 125 []]:=nr rfl
theorem wB:Ag.zero1 123= .own 125 []:=nr rfl
theorem wC:Ag.size 123=1:=nr rfl
theorem AHp:Ag.ty 124= .struct [3,3]:=nr rfl
theorem wD:Ag.ty 125= .struct [3,3]:=nr rfl
theorem wE:Ag.known 125=true:=nr rfl
theorem wF:Ag.isStruct 125=true:=nr rfl
theorem wG:Ag.zeros 125=[.int .i64 0,.int .i64 0]:=nr rfl
theorem wH:Ag.nest 125=none:=nr rfl
theorem wI:Ag.size 125=2:=nr rfl
theorem AHq:Ag.ty 126= .func:=nr rfl
theorem AHr:Ag.ty 127= .func:=nr rfl
theorem AHs:Ag.ty 128= .func:=nr rfl
theorem AHt:Ag.ty 129= .func:=nr rfl
theorem AHu:Ag.ty 130= .func:=nr rfl
theorem wJ:Ag.ty 131= .func:=nr rfl
theorem wK:Ag.known 131=true:=nr rfl
theorem wL:Ag.isStruct 131=false:=nr rfl
theorem wM:Ag.zeros 131=[.konst .nilFunc]:=nr rfl
theorem wN:Ag.zero1 131= .konst .nilFunc:=nr rfl
theorem wO:Ag.size 131=1:=nr rfl
theorem wP:Ag.ty 132= .func:=nr rfl
theorem wQ:Ag.known 132=true:=nr rfl
theorem wR:Ag.isStruct 132=false:=nr rfl
theorem wS:Ag.zeros 132=[.konst .nilFunc]:=nr rfl
theorem wT:Ag.zero1 132= .konst .nilFunc:=nr rfl
theorem wU:Ag.size 132=1:=nr rfl
theorem AHv:Ag.ty 133= .func:=nr rfl
theorem AHw:Ag.ty 134= .func:=nr rfl
theorem wV:Ag.ty 135= .slice 137:=nr rfl
theorem wW:Ag.known 135=true:=nr rfl
theorem wX:Ag.isStruct 135=false:=nr rfl
theorem wY:Ag.zeros 135=[.own 137 []]:=nr rfl
theorem wZ:Ag.zero1 135= .own 137 []:=nr rfl
theorem wh:Ag.size 135=1:=nr rfl
theorem AHx:Ag.ty 136= .struct [3,3,3,3]:=nr rfl
theorem wm:Ag.ty 137= .struct [3,3,3,3]:=nr rfl
theorem wo:Ag.known 137=true:=nr rfl
theorem wu:Ag.isStruct 137=true:=nr rfl
theorem ww:Ag.zeros 137=[.int .i64 0,.int .i64 0,.int .i64 0,.int .i64 0]:=nr rfl
theorem wy:Ag.nest 137=none:=nr rfl
theorem wz:Ag.size 137=4:=nr rfl
theorem AHy:Ag.ty 138= .func:=nr rfl
theorem x8:Ag.ty 139= .func:=nr rfl
theorem x9:Ag.known 139=true:=nr rfl
theorem xA:Ag.isStruct 139=false:=nr rfl
theorem xB:Ag.zeros 139=[.konst .nilFunc]:=nr rfl
theorem xC:Ag.zero1 139= .konst .nilFunc:=nr rfl
theorem xD:Ag.size 139=1:=nr rfl
theorem AHz:Ag.ty 140= .func:=nr rfl
theorem AI0:Ag.ty 141= .func:=nr rfl
theorem AI1:Ag.ty 142= .func:=nr rfl
theorem AI2:Ag.ty 143= .func:=nr rfl
theorem xE:Ag.ty 144= .map 3 3:=nr rfl
theorem AI3:Ag.ty 145= .func:=nr rfl
theorem AI4:Ag.ty 146= .func:=nr rfl
theorem AI5:Ag.ty 147= .func:=nr rfl
theorem xF:Ag.ty 148= .func:=nr rfl
theorem xG:Ag.known 148=true:=nr rfl
theorem xH:Ag.isStruct 148=false:=nr rfl
theorem xI:Ag.zeros 148=[.konst .nilFunc]:=nr rfl
theorem xJ:Ag.zero1 148= .konst .nilFunc:=nr rfl
theorem xK:Ag.size 148=1:=nr rfl
theorem AI6:Ag.ty 149= .func:=nr rfl
theorem AI7:Ag.ty 150= .func:=nr rfl
theorem xL:Ag.ty 151= .int .u32:=nr rfl
theorem xM:Ag.known 151=true:=nr rfl
theorem xN:Ag.isStruct 151=false:=nr rfl
theorem xO:Ag.zeros 151=[.int .u32 0]:=nr rfl
theorem xP:Ag.zero1 151= .int .u32 0:=nr rfl
theorem xQ:Ag.size 151=1:=nr rfl
theorem AI8:Ag.ty 153= .func:=nr rfl
theorem xR:Ag.ty 154= .int .u64:=nr rfl
theorem xS:Ag.known 154=true:=nr rfl
theorem xU:Ag.isStruct 154=false:=nr rfl
theorem xV:Ag.zeros 154=[.int .u64 0]:=nr rfl
theorem xW:Ag.zero1 154= .int .u64 0:=nr rfl
theorem xX:Ag.size 154=1:=nr rfl
theorem AI9:Ag.ty 156= .func:=nr rfl
theorem AIA:Ag.ty 157= .func:=nr rfl
theorem AIB:Ag.ty 158= .func:=nr rfl
theorem oV:Ag.ty 159= .struct [3,3]:=nr rfl
theorem xY:Ag.known 159=true:=nr rfl
theorem xZ:Ag.isStruct 159=true:=nr rfl
theorem xc:Ag.zeros 159=[.int .i64 0,.int .i64 0]:=nr rfl
theorem xe:Ag.nest 159=none:=nr rfl
theorem xf:Ag.size 159=2:=nr rfl
theorem AIC:Ag.ty 160= .func:=nr rfl
theorem AID:Ag.ty 161= .func:=nr rfl
theorem xg:Ag.ty 162= .map 164 3:=nr rfl
theorem AIE:Ag.ty 163= .arr 14 3:=nr rfl
theorem xh:Ag.ty 164= .arr 14 3:=nr rfl
theorem xk:Ag.known 164=true:=nr rfl
theorem xm:Ag.isStruct 164=true:=nr rfl
theorem xn:Ag.zeros 164=[.int .i64 0,.int .i64 0,.int .i64 0,.int .i64 0,.int .i64 0,.int .i64 0,.int .i64 0,.int .i64 0,.int .i64 0,.int .i64 0,.int .i64 0,.int .i64 0,.int .i64 0,.int .i64 0]:=nr rfl
theorem xq:Ag.nest 164=some [(0,3),(1,3),(2,3),(3,3),(4,3),(5,3),(6,3),(7,3),(8,3),(9,3),(10,3),(11,3),(12,3),(13,3)]:=nr rfl
theorem xu:Ag.size 164=14:=nr rfl
theorem AIF:Ag.ty 165= .func:=nr rfl
theorem AIG:Ag.ty 166= .func:=nr rfl
theorem xw:Ag.ty 167= .func:=nr rfl
theorem xx:Ag.known 167=true:=nr rfl
theorem xy:Ag.isStruct 167=false:=nr rfl
theorem xz:Ag.zeros 167=[.konst .nilFunc]:=nr rfl
theorem y5:Ag.zero1 167= .konst .nilFunc:=nr rfl
theorem y7:Ag.size 167=1:=nr rfl
theorem AIH:Ag.ty 168= .func:=nr rfl
theorem AII:Ag.ty 169= .func:=nr rfl
theorem AIJ:Ag.ty 170= .func:=nr rfl
theorem AIK:Ag.ty 171= .func:=nr rfl
theorem AIL:Ag.ty 172= .func:=nr rfl
theorem AIM:Ag.ty 173= .func:=nr rfl
theorem AIN:Ag.ty 174= .func:=nr rfl
theorem AIO:Ag.ty 175= .func:=nr rfl
theorem AIP:Ag.ty 176= .func:=nr rfl
theorem AIQ:Ag.ty 177= .func:=nr rfl
theorem AIR:Ag.ty 178= .func:=nr rfl
theorem AIS:Ag.ty 179= .func:=nr rfl
theorem y8:Ag.ty 180= .int .i64:=nr rfl
theorem y9:Ag.known 180=true:=nr rfl
theorem yA:Ag.isStruct 180=false:=nr rfl
theorem yB:Ag.zeros 180=[.int .i64 0]:=nr rfl
theorem yC:Ag.zero1 180= .int .i64 0:=nr rfl
theorem yD:Ag.size 180=1:=nr rfl
theorem AIT:Ag.ty 182= .func:=nr rfl
theorem AIU:Ag.ty 183= .func:=nr rfl
theorem AIV:Ag.ty 184= .func:=nr rfl
theorem AIW:Ag.ty 185= .func:=nr rfl
theorem AIX:Ag.ty 186= .func:=nr rfl
theorem yE:Ag.ty 187= .int .u64:=nr rfl
theorem yF:Ag.known 187=true:=nr rfl
theorem yG:Ag.isStruct 187=false:=nr rfl
theorem yH:Ag.zeros 187=[.int .u64 0]:=nr rfl
theorem yI:Ag.zero1 187= .int .u64 0:=nr rfl
theorem yJ:Ag.size 187=1:=nr rfl
theorem AIY:Ag.ty 188= .func:=nr rfl
theorem AIZ:Ag.ty 189= .func:=nr rfl
theorem AIa:Ag.ty 190= .func:=nr rfl
theorem yK:Ag.ty 191= .ptr:=nr rfl
theorem yM:Ag.known 191=true:=nr rfl
theorem yN:Ag.isStruct 191=false:=nr rfl
theorem yO:Ag.zeros 191=[.konst (.pointer none)]:=nr rfl
theorem yP:Ag.zero1 191= .konst (.pointer none):=nr rfl
theorem yQ:Ag.size 191=1:=nr rfl
theorem AIb:Ag.ty 192= .func:=nr rfl
theorem AIc:Ag.ty 193= .ptr:=nr rfl
theorem AId:Ag.ty 195= .func:=nr rfl
theorem AIe:Ag.ty 196= .func:=nr rfl
theorem AIf:Ag.ty 197= .struct [17,17,17,9]:=nr rfl
theorem AIg:Ag.ty 198= .struct [17,17,17,9]:=nr rfl
theorem AIh:Ag.ty 202= .func:=nr rfl
theorem AIi:Ag.ty 203= .int .u8:=nr rfl
theorem AIj:Ag.ty 204= .int .u8:=nr rfl
theorem AIk:Ag.ty 205= .func:=nr rfl
theorem AIl:Ag.ty 206= .ptr:=nr rfl
theorem AIm:Ag.ty 207= .int .i32:=nr rfl
theorem AIn:Ag.ty 208= .int .i32:=nr rfl
theorem AIo:Ag.ty 209= .struct [12,12,151,203,5,5,204,205,206,207,208]:=nr rfl
theorem AIp:Ag.ty 210= .struct [12,12,151,203,5,5,204,205,206,207,208]:=nr rfl
theorem AIq:Ag.ty 211= .func:=nr rfl
theorem le3:lends 3=false:=nr rfl
theorem le4:lends 4=false:=nr rfl
theorem le5:lends 5=false:=nr rfl
theorem le6:lends 6=false:=nr rfl
theorem le7:lends 7=false:=nr rfl
theorem le8:lends 8=false:=nr rfl
theorem le9:lends 9=false:=nr rfl
theorem A8Z:lends 10=false:=nr rfl
theorem A8a:lends 11=false:=nr rfl
theorem A8b:lends 12=false:=nr rfl
theorem A8c:lends 13=false:=nr rfl
theorem A8d:lends 14=false:=nr rfl
theorem A8e:lends 15=false:=nr rfl
theorem A8f:lends 16=true:=nr rfl
theorem A8g:lends 17=true:=nr rfl
theorem A8h:lends 18=false:=nr rfl
theorem A8i:lends 19=false:=nr rfl
theorem A8j:lends 20=false:=nr rfl
theorem A8k:lends 21=false:=nr rfl
theorem A8l:lends 22=false:=nr rfl
theorem A8m:lends 23=false:=nr rfl
theorem A8n:lends 24=false:=nr rfl
theorem A8o:lends 25=false:=nr rfl
theorem A8p:lends 26=false:=nr rfl
theorem A8q:lends 27=false:=nr rfl
theorem A8r:lends 28=false:=nr rfl
theorem A8s:lends 29=false:=nr rfl
theorem A8t:lends 30=true:=nr rfl
theorem A8u:lends 31=false:=nr rfl
theorem A8v:lends 32=false:=nr rfl
theorem A8w:lends 33=false:=nr rfl
theorem A8x:lends 34=true:=nr rfl
theorem A8y:lends 35=false:=nr rfl
theorem A8z:lends 36=false:=nr rfl
theorem A90:lends 37=false:=nr rfl
theorem A91:lends 38=false:=nr rfl
theorem A92:lends 39=false:=nr rfl
theorem A93:lends 40=false:=nr rfl
theorem A94:lends 41=false:=nr rfl
theorem A95:lends 42=false:=nr rfl
theorem A96:lends 43=false:=nr rfl
theorem A97:lends 44=false:=nr rfl
theorem A98:lends 45=false:=nr rfl
theorem A99:lends 46=false:=nr rfl
theorem A9A:lends 47=true:=nr rfl
theorem A9B:lends 48=false:=nr rfl
theorem A9C:lends 49=true:=nr rfl
theorem A9D:lends 50=false:=nr rfl
theorem A9E:lends 51=false:=nr rfl
theorem A9F:lends 52=false:=nr rfl
theorem A9G:lends 53=false:=nr rfl
theorem A9H:lends 54=false:=nr rfl
theorem A9I:lends 55=false:=nr rfl
theorem A9J:lends 56=false:=nr rfl
theorem A9K:lends 57=false:=nr rfl
theorem A9L:lends 58=false:=nr rfl
theorem A9M:lends 59=false:=nr rfl
theorem A9N:lends 60=false:=nr rfl
theorem A9O:lends 61=false:=nr rfl
theorem A9P:lends 62=false:=nr rfl
theorem A9Q:lends 63=false:=nr rfl
theorem A9R:lends 64=false:=nr rfl
theorem A9S:lends 65=false:=nr rfl
theorem A9T:lends 66=false:=nr rfl
theorem A9U:lends 67=false:=nr rfl
theorem A9V:lends 68=false:=nr rfl
theorem A9W:lends 69=false:=nr rfl
theorem A9X:lends 70=false:=nr rfl
theorem A9Y:lends 71=false:=nr rfl
theorem A9Z:lends 72=false:=nr rfl
theorem A9a:lends 73=false:=nr rfl
theorem A9b:lends 74=false:=nr rfl
theorem A9c:lends 75=false:=nr rfl
theorem A9d:lends 76=false:=nr rfl
theorem A9e:lends 77=false:=nr rfl
theorem A9f:lends 78=false:=nr rfl
theorem A9g:lends 79=true:=nr rfl
theorem A9h:lends 80=false:=nr rfl
theorem A9i:lends 81=false:=nr rfl
theorem A9j:lends 82=false:=nr rfl
theorem A9k:lends 83=false:=nr rfl
theorem A9l:lends 84=false:=nr rfl
theorem A9m:lends 85=false:=nr rfl
theorem A9n:lends 86=false:=nr rfl
theorem A9o:lends 87=false:=nr rfl
theorem A9p:lends 88=true:=nr rfl
theorem A9q:lends 89=false:=nr rfl
theorem A9r:lends 90=false:=nr rfl
theorem A9s:lends 91=false:=nr rfl
theorem A9t:lends 92=false:=nr rfl
theorem A9u:lends 93=false:=nr rfl
theorem A9v:lends 94=false:=nr rfl
theorem A9w:lends 95=false:=nr rfl
theorem A9x:lends 96=false:=nr rfl
theorem A9y:lends 97=false:=nr rfl
theorem A9z:lends 98=false:=nr rfl
theorem AA0:lends 99=false:=nr rfl
theorem yR:lends 100=false:=nr rfl
theorem yS:lends 101=false:=nr rfl
theorem yU:lends 102=false:=nr rfl
theorem yV:lends 103=false:=nr rfl
theorem yX:lends 104=false:=nr rfl
theorem yY:lends 105=false:=nr rfl
theorem yZ:lends 106=false:=nr rfl
theorem yc:lends 107=false:=nr rfl
theorem yf:lends 108=false:=nr rfl
theorem yg:lends 109=false:=nr rfl
theorem yh:lends 110=false:=nr rfl
theorem yj:lends 111=false:=nr rfl
theorem yl:lends 112=false:=nr rfl
theorem ym:lends 113=false:=nr rfl
theorem yn:lends 114=false:=nr rfl
theorem yo:lends 115=false:=nr rfl
theorem yt:lends 116=false:=nr rfl
theorem yu:lends 117=false:=nr rfl
theorem yw:lends 118=false:=nr rfl
theorem yx:lends 119=false:=nr rfl
theorem yz:lends 120=true:=nr rfl
theorem z8:lends 121=false:=nr rfl
theorem zA:lends 122=false:=nr rfl
theorem zC:lends 123=false:=nr rfl
theorem zD:lends 124=false:=nr rfl
theorem zF:lends 125=false:=nr rfl
theorem zG:lends 126=false:=nr rfl
theorem zH:lends 127=false:=nr rfl
theorem zI:lends 128=true:=nr rfl
theorem zJ:lends 129=false:=nr rfl
theorem zK:lends 130=false:=nr rfl
theorem zL:lends 131=false:=nr rfl
theorem zM:lends 132=false:=nr rfl
theorem zN:lends 133=false:=nr rfl
theorem zO:lends 134=false:=nr rfl
theorem zP:lends 135=false:=nr rfl
theorem zQ:lends 136=false:=nr rfl
theorem zR:lends 137=false:=nr rfl
theorem zS:lends 138=false:=nr rfl
theorem zT:lends 139=false:=nr rfl
theorem zU:lends 140=false:=nr rfl
theorem zV:lends 141=false:=nr rfl
theorem zW:lends 142=false:=nr rfl
theorem zX:lends 143=false:=nr rfl
theorem zY:lends 144=false:=nr rfl
theorem zZ:lends 145=false:=nr rfl
theorem za:lends 146=false:=nr rfl
theorem zb:lends 147=false:=nr rfl
theorem ze:lends 148=false:=nr rfl
theorem zf:lends 149=false:=nr rfl
theorem zg:lends 150=false:=nr rfl
theorem zh:lends 151=false:=nr rfl
theorem zi:lends 152=true:=nr rfl
theorem zk:lends 153=false:=nr rfl
theorem zm:lends 154=false:=nr rfl
theorem zn:lends 155=false:=nr rfl
theorem zo:lends 156=false:=nr rfl
theorem zq:lends 157=false:=nr rfl
theorem zt:lends 158=false:=nr rfl
theorem zu:lends 159=false:=nr rfl
theorem zw:lends 160=false:=nr rfl
theorem oW:lends 161=false:=nr rfl
theorem zx:lends 162=false:=nr rfl
theorem zy:lends 163=false:=nr rfl
theorem zz:lends 164=false:=nr rfl
theorem A00:lends 165=false:=nr rfl
theorem A01:lends 166=false:=nr rfl
theorem A02:lends 167=false:=nr rfl
theorem A03:lends 168=false:=nr rfl
theorem A04:lends 169=false:=nr rfl
theorem oZ:lends 170=false:=nr rfl
theorem A05:lends 171=false:=nr rfl
theorem A06:lends 172=false:=nr rfl
theorem A07:lends 173=false:=nr rfl
theorem A08:lends 174=false:=nr rfl
theorem A09:lends 175=false:=nr rfl
theorem A0A:lends 176=false:=nr rfl
theorem A0B:lends 177=false:=nr rfl
theorem A0C:lends 178=false:=nr rfl
theorem A0D:lends 179=false:=nr rfl
theorem A0E:lends 180=false:=nr rfl
theorem A0F:lends 181=false:=nr rfl
theorem A0G:lends 182=false:=nr rfl
theorem A0H:lends 183=false:=nr rfl
theorem A0I:lends 184=false:=nr rfl
theorem A0J:lends 185=false:=nr rfl
theorem A0K:lends 186=false:=nr rfl
theorem A0L:lends 187=false:=nr rfl
theorem A0M:lends 188=false:=nr rfl
theorem A0N:lends 189=false:=nr rfl
theorem A0O:lends 190=false:=nr rfl
theorem A0P:lends 191=false:=nr rfl
theorem A0Q:lends 192=false:=nr rfl
theorem A0R:lends 193=false:=nr rfl
theorem A0S:lends 194=false:=nr rfl
theorem A0T:lends 195=false:=nr rfl
theorem A0U:lends 196=false:=nr rfl
theorem A0V:lends 197=false:=nr rfl
theorem A0W:lends 198=false:=nr rfl
theorem A0X:lends 199=false:=nr rfl
theorem A0Y:lends 200=false:=nr rfl
theorem A0Z:lends 201=false:=nr rfl
theorem A0a:lends 202=false:=nr rfl
theorem A0b:lends 203=false:=nr rfl
theorem A0c:lends 204=false:=nr rfl
theorem A0d:lends 205=false:=nr rfl
theorem A0e:lends 206=false:=nr rfl
theorem A0f:lends 207=false:=nr rfl
theorem A0g:lends 208=false:=nr rfl
theorem A0h:lends 209=false:=nr rfl
theorem A0i:lends 210=false:=nr rfl
theorem A0j:lends 211=false:=nr rfl
theorem A0k:lends 212=false:=nr rfl
theorem A0l:lends 213=true:=nr rfl
theorem A0m:lends 214=false:=nr rfl
theorem A0n:lends 215=false:=nr rfl
set_option maxRecDepth 100000 in
theorem tF:BR Try.prog Ag:=A1W (by kernel_rfl)
theorem mixed:Try.prog.follows .mixedOrders=true:=by kernel_rfl
noncomputable def Y0:Dv.Sys:={P:=Try.prog,T:=Ag,lends:=lends,base:=fun _ _ _=>none}
theorem AF5:Dv.Sys.Ok Y0:=⟨tF,mixed,fun _ _ _ _ _ h=>by cases h⟩
theorem AF6(T:Tys)(s:St)(t:TypeId):ev T s t (.const .nilFunc)=some (.konst .nilFunc):=nr rfl
theorem AF7(T:Tys)(s:St)(t:TypeId):ev T s t (.const .nilIface)=some (.konst .nilIface):=nr rfl
theorem AF8(T:Tys)(s:St)(t:TypeId):ev T s t (.const (.pointer none))=some (.konst (.pointer none)):=nr rfl
theorem y0T:Y0.T=Ag:=nr rfl
theorem y0L:Y0.lends=lends:=nr rfl
set_option maxRecDepth 10000 in
set_option linter.defProp false in
def AA1:=
 A7 @y0T (
 A7 @y0L (
 A7 @ty3 (
 A7 @ty4 (
 A7 @ty5 (
 A7 @A76 (
 A7 @A7C (
 A7 @A2O (
 A7 @A7L (
 A7 @A2R (
 A7 @A2S (
 A7 @A7b (
 A7 @A7h (
 A7 @A7n (
 A7 @A7t (
 A7 @A7z (
 A7 @A85 (
 A7 @A8B (
 A7 @A8H (
 A7 @A8N (
 A7 @A8T (
 A7 @vK (
 A7 @vQ (
 A7 @oU (
 A7 @vk (
 A7 @wD (
 A7 @wJ (
 A7 @wP (
 A7 @wV (
 A7 @wm (
 A7 @x8 (
 A7 @xE (
 A7 @xF (
 A7 @xL (
 A7 @xR (
 A7 @oV (
 A7 @xg (
 A7 @xh (
 A7 @xw (
 A7 @y8 (
 A7 @yE (
 A7 @yK (
 A7 @kn3 (
 A7 @st3 (
 A7 @sz3 (
 A7 @zr3 (
 A7 @kn4 (
 A7 @st4 (
 A7 @sz4 (
 A7 @zr4 (
 A7 @kn5 (
 A7 @st5 (
 A7 @sz5 (
 A7 @zr5 (
 A7 @A77 (
 A7 @A78 (
 A7 @A7B (
 A7 @A79 (
 A7 @A7D (
 A7 @A7E (
 A7 @A7H (
 A7 @A7F (
 A7 @A2P (
 A7 @A7I (
 A7 @A2Q (
 A7 @A7J (
 A7 @A7M (
 A7 @A7N (
 A7 @A7Q (
 A7 @A7O (
 A7 @A7R (
 A7 @A7S (
 A7 @A7V (
 A7 @A7T (
 A7 @A7W (
 A7 @A7X (
 A7 @A7a (
 A7 @A7Y (
 A7 @A7c (
 A7 @A7d (
 A7 @A7g (
 A7 @A7e (
 A7 @A7i (
 A7 @A7j (
 A7 @A7m (
 A7 @A7k (
 A7 @A7o (
 A7 @A7p (
 A7 @A7s (
 A7 @A7q (
 A7 @A7u (
 A7 @A7v (
 A7 @A7y (
 A7 @A7w (
 A7 @A80 (
 A7 @A81 (
 A7 @A84 (
 A7 @A82 (
 A7 @A86 (
 A7 @A87 (
 A7 @A8A (
 A7 @A88 (
 A7 @A8C (
 A7 @A8D (
 A7 @A8G (
 A7 @A8E (
 A7 @A8I (
 A7 @A8J (
 A7 @A8M (
 A7 @A8K (
 A7 @A8O (
 A7 @A8P (
 A7 @A8S (
 A7 @A8Q (
 A7 @A8U (
 A7 @A8V (
 A7 @A8Y (
 A7 @A8W (
 A7 @vL (
 A7 @vM (
 A7 @vP (
 A7 @vN (
 A7 @vR (
 A7 @vS (
 A7 @vV (
 A7 @vT (
 A7 @vW (
 A7 @vX (
 A7 @vg (
 A7 @vY (
 A7 @vo (
 A7 @vz (
 A7 @wC (
 A7 @w9 (
 A7 @wE (
 A7 @wF (
 A7 @wI (
 A7 @wG (
 A7 @wK (
 A7 @wL (
 A7 @wO (
 A7 @wM (
 A7 @wQ (
 A7 @wR (
 A7 @wU (
 A7 @wS (
 A7 @wW (
 A7 @wX (
 A7 @wh (
 A7 @wY (
 A7 @wo (
 A7 @wu (
 A7 @wz (
 A7 @ww (
 A7 @x9 (
 A7 @xA (
 A7 @xD (
 A7 @xB (
 A7 @xG (
 A7 @xH (
 A7 @xK (
 A7 @xI (
 A7 @xM (
 A7 @xN (
 A7 @xQ (
 A7 @xO (
 A7 @xS (
 A7 @xU (
 A7 @xX (
 A7 @xV (
 A7 @xY (
 A7 @xZ (
 A7 @xf (
 A7 @xc (
 A7 @xk (
 A7 @xm (
 A7 @xu (
 A7 @xn (
 A7 @xx (
 A7 @xy (
 A7 @y7 (
 A7 @xz (
 A7 @y9 (
 A7 @yA (
 A7 @yD (
 A7 @yB (
 A7 @yF (
 A7 @yG (
 A7 @yJ (
 A7 @yH (
 A7 @yM (
 A7 @yN (
 A7 @yQ (
 A7 @yO (
 A7 @A7G (
 A7 @A7P (
 A7 @A7Z (
 A7 @A7l (
 A7 @A7r (
 A7 @A7x (
 A7 @A89 (
 A7 @A8L (
 A7 @wH (
 A7 @wy (
 A7 @xe (
 A7 @xq (
 A7 @oG (
 A7 @oH (
 A7 @oJ (
 A7 @oK (
 A7 @oO (
 A7 @oP (
 A7 @oQ (
 A7 @zo3 (
 A7 @zo4 (
 A7 @zo5 (
 A7 @A7A (
 A7 @A7K (
 A7 @A7U (
 A7 @A7f (
 A7 @A83 (
 A7 @A8F (
 A7 @A8R (
 A7 @A8X (
 A7 @vO (
 A7 @vU (
 A7 @vZ (
 A7 @wB (
 A7 @wN (
 A7 @wT (
 A7 @wZ (
 A7 @xC (
 A7 @xJ (
 A7 @xP (
 A7 @xW (
 A7 @y5 (
 A7 @yC (
 A7 @yI (
 A7 @yP (
 A7 @le3 (
 A7 @le4 (
 A7 @le5 (
 A7 @le6 (
 A7 @le7 (
 A7 @le8 (
 A7 @le9 (
 A7 @A8Z (
 A7 @A8a (
 A7 @A8b (
 A7 @A8c (
 A7 @A8d (
 A7 @A8e (
 A7 @A8f (
 A7 @A8g (
 A7 @A8h (
 A7 @A8i (
 A7 @A8j (
 A7 @A8k (
 A7 @A8l (
 A7 @A8m (
 A7 @A8n (
 A7 @A8o (
 A7 @A8p (
 A7 @A8q (
 A7 @A8r (
 A7 @A8s (
 A7 @A8t (
 A7 @A8u (
 A7 @A8v (
 A7 @A8w (
 A7 @A8x (
 A7 @A8y (
 A7 @A8z (
 A7 @A90 (
 A7 @A91 (
 A7 @A92 (
 A7 @A93 (
 A7 @A94 (
 A7 @A95 (
 A7 @A96 (
 A7 @A97 (
 A7 @A98 (
 A7 @A99 (
 A7 @A9A (
 A7 @A9B (
 A7 @A9C (
 A7 @A9D (
 A7 @A9E (
 A7 @A9F (
 A7 @A9G (
 A7 @A9H (
 A7 @A9I (
 A7 @A9J (
 A7 @A9K (
 A7 @A9L (
 A7 @A9M (
 A7 @A9N (
 A7 @A9O (
 A7 @A9P (
 A7 @A9Q (
 A7 @A9R (
 A7 @A9S (
 A7 @A9T (
 A7 @A9U (
 A7 @A9V (
 A7 @A9W (
 A7 @A9X (
 A7 @A9Y (
 A7 @A9Z (
 A7 @A9a (
 A7 @A9b (
 A7 @A9c (
 A7 @A9d (
 A7 @A9e (
 A7 @A9f (
 A7 @A9g (
 A7 @A9h (
 A7 @A9i (
 A7 @A9j (
 A7 @A9k (
 A7 @A9l (
 A7 @A9m (
 A7 @A9n (
 A7 @A9o (
 A7 @A9p (
 A7 @A9q (
 A7 @A9r (
 A7 @A9s (
 A7 @A9t (
 A7 @A9u (
 A7 @A9v (
 A7 @A9w (
 A7 @A9x (
 A7 @A9y (
 A7 @A9z (
 A7 @AA0 (
 A7 @yR (
 A7 @yS (
 A7 @yU (
 A7 @yV (
 A7 @yX (
 A7 @yY (
 A7 @yZ (
 A7 @yc (
 A7 @yf (
 A7 @yg (
 A7 @yh (
 A7 @yj (
 A7 @yl (
 A7 @ym (
 A7 @yn (
 A7 @yo (
 A7 @yt (
 A7 @yu (
 A7 @yw (
 A7 @yx (
 A7 @yz (
 A7 @z8 (
 A7 @zA (
 A7 @zC (
 A7 @zD (
 A7 @zF (
 A7 @zG (
 A7 @zH (
 A7 @zI (
 A7 @zJ (
 A7 @zK (
 A7 @zL (
 A7 @zM (
 A7 @zN (
 A7 @zO (
 A7 @zP (
 A7 @zQ (
 A7 @zR (
 A7 @zS (
 A7 @zT (
 A7 @zU (
 A7 @zV (
 A7 @zW (
 A7 @zX (
 A7 @zY (
 A7 @zZ (
 A7 @za (
 A7 @zb (
 A7 @ze (
 A7 @zf (
 A7 @zg (
 A7 @zh (
 A7 @zi (
 A7 @zk (
 A7 @zm (
 A7 @zn (
 A7 @zo (
 A7 @zq (
 A7 @zt (
 A7 @zu (
 A7 @zw (
 A7 @oW (
 A7 @zx (
 A7 @zy (
 A7 @zz (
 A7 @A00 (
 A7 @A01 (
 A7 @A02 (
 A7 @A03 (
 A7 @A04 (
 A7 @oZ (
 A7 @A05 (
 A7 @A06 (
 A7 @A07 (
 A7 @A08 (
 A7 @A09 (
 A7 @A0A (
 A7 @A0B (
 A7 @A0C (
 A7 @A0D (
 A7 @A0E (
 A7 @A0F (
 A7 @A0G (
 A7 @A0H (
 A7 @A0I (
 A7 @A0J (
 A7 @A0K (
 A7 @A0L (
 A7 @A0M (
 A7 @A0N (
 A7 @A0O (
 A7 @A0P (
 A7 @A0Q (
 A7 @A0R (
 A7 @A0S (
 A7 @A0T (
 A7 @A0U (
 A7 @A0V (
 A7 @A0W (
 A7 @A0X (
 A7 @A0Y (
 A7 @A0Z (
 A7 @A0a (
 A7 @A0b (
 A7 @A0c (
 A7 @A0d (
 A7 @A0e (
 A7 @A0f (
 A7 @A0g (
 A7 @A0h (
 A7 @A0i (
 A7 @A0j (
 A7 @A0k (
 A7 @A0l (
 A7 @A0m (@A0n)))))))))))))))))))))))))))))))))))))))))))))))))))))))))))))))))))))))))))))))))))))))))))))))))))))))))))))))))))))))))))))))))))))))))))))))))))))))))))))))))))))))))))))))))))))))))))))))))))))))))))))))))))))))))))))))))))))))))))))))))))))))))))))))))))))))))))))))))))))))))))))))))))))))))))))))))))))))))))))))))))))))))))))))))))))))))))))))))))))))))))))))))))))))))))))))))))))))))))))))))))))))))))))))))))))))))))))))))))))))))))))))))))
def og:SC:= .seq (.ops [oX 2 (.assign (.const (.slice none 0 0))) 26]) (.seq (.seq (.ops [oM 3 0 26,oB 4 .eql 26 (tK 3) (.const (.slice none 0 0)) 26 4]) (.cond (tK 4) (.seq (.ops [oX 2 (.assign (.const (.slice none 0 0))) 26]) .ret) .skip)) (.seq (.ops [oX 5 (.buildSlice 26 0 #[]) 26,oM 6 0 26,oX 7 (.call ⟨(.builtin .append), #[(tK 5),(tK 6)], #[26,26]⟩) 26,oA 2 7 26]) .ret))
theorem gK:Try.f121.body.map (BV lends)=some og:=by kernel_rfl
theorem A0o:Bl Try.f121 1=true:=by kernel_rfl
theorem dh(A:Option Addr)(c:Nat):Y0.call 121 [.konst (.slice A 0 c)] []=some (.own 3 [],[]):=by
 refine Af (Y:=Y0) rfl Try.func121 A0o gK ?_;show Br Y0.env og (Fa Ag 0 [ResultVar.tmp 2] _) _
 unfold og
 cases A<;>simp only [↓AU,nS,AA1,implies_true,Cn,LU,Option.isSome_some,↓reduceIte,Nat.reduceEqDiff,Nat.reduceLT,Nat.reduceLeDiff,Nat.reduceAdd,Nat.reduceMul,Nat.reduceMod,Nat.reduceSub,List.contains_cons,List.contains_nil,Nat.reduceBEq,List.getD_cons_zero,List.getD_cons_succ,List.getD_nil,ND,QS,List.size_toArray,List.toList_toArray,List.zip_cons_cons,List.zip_nil_left,VY,PP,PN,NF,List.map_nil,iX,List.replicate_zero,Yk,X9,List.set_set,PQ,List.any_cons,List.any_nil,List.all_nil,OJ,QR,List.getElem?_nil,List.range_zero,beq_self_eq_true,Int.reduceLE,Int.reduceLT,Int.reduceEq,Int.reduceSub,Int.reduceAdd,Int.reduceToNat,Int.reduceNeg,Option.isNone_none,Option.isNone_some]
theorem tH:Dv.Good Try.prog Ag 121 [.sl 3 []] [] (.own 3 []) []:=dN kn3 (fun A c=>Dv.Sys.call_good AF5 (dh A c))
def ol(f:FuncId)(a l:List D):Option (D×List D):=
 match f,a,l with
 |121,[.sl 3 []],[]=>some (.own 3 [],[])
 |_,_,_=>none
theorem tJ: ∀f a l r outs,ol f a l=some (r,outs)→Dv.Good Try.prog Ag f a l r outs:=by
 intro f a l r outs h;unfold ol at h
 split at h
 ·simp only [Option.some.injEq,Prod.mk.injEq]at h;obtain⟨rfl,rfl⟩:=h;exact tH
 ·cases h
theorem oo: ∀zs:AP,zs.length<4611686018427387904→Dv.Good Try.prog Ag 152 [.vw [100000] 0 0] [.own 3 (Hw zs)] (.tup []) [.own 3 (Hw (Ij zs))]:=fun zs h=>
 kK ⟨Try.f152,Try.func152,rfl,by decide⟩ sz3 (fun blk off cap zs w h1 h2 h3=>Try.slices_Sort_int blk off cap zs w h1 h2 h3) (fun p cap w=>Try.slices_Sort_int_none p cap w) zs h
theorem dm: ∀zs:AP,zs.length<1099511627776→Dv.Good Try.prog Ag 115 [.clo 155 [.cptr [.sl 3 (Hw zs)]]] [] (.own 3 (Hw (Ij zs))) []:=fun zs h=>
 Zz ⟨Try.f115,Try.func115,rfl,by decide⟩ sz3
  (fun p ad cap w h1 h2=>callsIn_wide.1 (Go.Proofs.sv.sorted_in 5 (Hm _) p _ [] (by decide) (by decide) w h1 h2 (.inl ⟨ad,cap,rfl,rfl⟩)))
  (fun p b off cap zs w h0 h1 h2 h3 h4=>callsIn_wide.1 (Go.Proofs.sv.sorted_in 5 (Hm _) p _ zs (by have:maxLen=9223372036854775807:=rfl;omega) (by omega) w h1 h2 (.inr ⟨b,off,cap,rfl,h3,h4⟩))) zs h
theorem aB: ∀n:Nat,n<1099511627776→Dv.Good Try.prog Ag 100 [.konst (.slice none 0 0),.int .i64 n] [] (.own 26 []) []:=fun n h=>
 df (ρ:=Try.laysGrow100_ren) tF Try.laysGrow100 ⟨Try.f100,Try.func100,rfl,by decide⟩ A2P A2Q n h
noncomputable def Y:Dv.Sys:={P:=Try.prog,T:=Ag,lends:=lends,base:=Oz (Np 100 26) (Oz (Oz ol (Nl 152 3)) (Ka 115 155 3))}
theorem yOk:Dv.Sys.Ok Y:=⟨tF,mixed,Nn (Vv aB) (Nn (Nn tJ (Vt oo)) (Rx dm))⟩
theorem oq:Ag.ty 900013= .other:=nr rfl
theorem yT:Y.T=Ag:=nr rfl
theorem yL:Y.lends=lends:=nr rfl
set_option maxRecDepth 10000 in
set_option linter.defProp false in
def AA2:=
 A7 @oq (
 A7 @yT (
 A7 @yL (
 A7 @AF6 (
 A7 @AF7 (
 A7 @AF8 (
 A7 @ty3 (
 A7 @ty4 (
 A7 @ty5 (
 A7 @A76 (
 A7 @A7C (
 A7 @A2O (
 A7 @A7L (
 A7 @A2R (
 A7 @A2S (
 A7 @A7b (
 A7 @A7h (
 A7 @A7n (
 A7 @A7t (
 A7 @A7z (
 A7 @A85 (
 A7 @A8B (
 A7 @A8H (
 A7 @A8N (
 A7 @A8T (
 A7 @vK (
 A7 @vQ (
 A7 @oU (
 A7 @vk (
 A7 @wD (
 A7 @wJ (
 A7 @wP (
 A7 @wV (
 A7 @wm (
 A7 @x8 (
 A7 @xE (
 A7 @xF (
 A7 @xL (
 A7 @xR (
 A7 @oV (
 A7 @xg (
 A7 @xh (
 A7 @xw (
 A7 @y8 (
 A7 @yE (
 A7 @yK (
 A7 @kn3 (
 A7 @st3 (
 A7 @sz3 (
 A7 @zr3 (
 A7 @kn4 (
 A7 @st4 (
 A7 @sz4 (
 A7 @zr4 (
 A7 @kn5 (
 A7 @st5 (
 A7 @sz5 (
 A7 @zr5 (
 A7 @A77 (
 A7 @A78 (
 A7 @A7B (
 A7 @A79 (
 A7 @A7D (
 A7 @A7E (
 A7 @A7H (
 A7 @A7F (
 A7 @A2P (
 A7 @A7I (
 A7 @A2Q (
 A7 @A7J (
 A7 @A7M (
 A7 @A7N (
 A7 @A7Q (
 A7 @A7O (
 A7 @A7R (
 A7 @A7S (
 A7 @A7V (
 A7 @A7T (
 A7 @A7W (
 A7 @A7X (
 A7 @A7a (
 A7 @A7Y (
 A7 @A7c (
 A7 @A7d (
 A7 @A7g (
 A7 @A7e (
 A7 @A7i (
 A7 @A7j (
 A7 @A7m (
 A7 @A7k (
 A7 @A7o (
 A7 @A7p (
 A7 @A7s (
 A7 @A7q (
 A7 @A7u (
 A7 @A7v (
 A7 @A7y (
 A7 @A7w (
 A7 @A80 (
 A7 @A81 (
 A7 @A84 (
 A7 @A82 (
 A7 @A86 (
 A7 @A87 (
 A7 @A8A (
 A7 @A88 (
 A7 @A8C (
 A7 @A8D (
 A7 @A8G (
 A7 @A8E (
 A7 @A8I (
 A7 @A8J (
 A7 @A8M (
 A7 @A8K (
 A7 @A8O (
 A7 @A8P (
 A7 @A8S (
 A7 @A8Q (
 A7 @A8U (
 A7 @A8V (
 A7 @A8Y (
 A7 @A8W (
 A7 @vL (
 A7 @vM (
 A7 @vP (
 A7 @vN (
 A7 @vR (
 A7 @vS (
 A7 @vV (
 A7 @vT (
 A7 @vW (
 A7 @vX (
 A7 @vg (
 A7 @vY (
 A7 @vo (
 A7 @vz (
 A7 @wC (
 A7 @w9 (
 A7 @wE (
 A7 @wF (
 A7 @wI (
 A7 @wG (
 A7 @wK (
 A7 @wL (
 A7 @wO (
 A7 @wM (
 A7 @wQ (
 A7 @wR (
 A7 @wU (
 A7 @wS (
 A7 @wW (
 A7 @wX (
 A7 @wh (
 A7 @wY (
 A7 @wo (
 A7 @wu (
 A7 @wz (
 A7 @ww (
 A7 @x9 (
 A7 @xA (
 A7 @xD (
 A7 @xB (
 A7 @xG (
 A7 @xH (
 A7 @xK (
 A7 @xI (
 A7 @xM (
 A7 @xN (
 A7 @xQ (
 A7 @xO (
 A7 @xS (
 A7 @xU (
 A7 @xX (
 A7 @xV (
 A7 @xY (
 A7 @xZ (
 A7 @xf (
 A7 @xc (
 A7 @xk (
 A7 @xm (
 A7 @xu (
 A7 @xn (
 A7 @xx (
 A7 @xy (
 A7 @y7 (
 A7 @xz (
 A7 @y9 (
 A7 @yA (
 A7 @yD (
 A7 @yB (
 A7 @yF (
 A7 @yG (
 A7 @yJ (
 A7 @yH (
 A7 @yM (
 A7 @yN (
 A7 @yQ (
 A7 @yO (
 A7 @A7G (
 A7 @A7P (
 A7 @A7Z (
 A7 @A7l (
 A7 @A7r (
 A7 @A7x (
 A7 @A89 (
 A7 @A8L (
 A7 @wH (
 A7 @wy (
 A7 @xe (
 A7 @xq (
 A7 @oG (
 A7 @oH (
 A7 @oJ (
 A7 @oK (
 A7 @oO (
 A7 @oP (
 A7 @oQ (
 A7 @zo3 (
 A7 @zo4 (
 A7 @zo5 (
 A7 @A7A (
 A7 @A7K (
 A7 @A7U (
 A7 @A7f (
 A7 @A83 (
 A7 @A8F (
 A7 @A8R (
 A7 @A8X (
 A7 @vO (
 A7 @vU (
 A7 @vZ (
 A7 @wB (
 A7 @wN (
 A7 @wT (
 A7 @wZ (
 A7 @xC (
 A7 @xJ (
 A7 @xP (
 A7 @xW (
 A7 @y5 (
 A7 @yC (
 A7 @yI (
 A7 @yP (
 A7 @le3 (
 A7 @le4 (
 A7 @le5 (
 A7 @le6 (
 A7 @le7 (
 A7 @le8 (
 A7 @le9 (
 A7 @A8Z (
 A7 @A8a (
 A7 @A8b (
 A7 @A8c (
 A7 @A8d (
 A7 @A8e (
 A7 @A8f (
 A7 @A8g (
 A7 @A8h (
 A7 @A8i (
 A7 @A8j (
 A7 @A8k (
 A7 @A8l (
 A7 @A8m (
 A7 @A8n (
 A7 @A8o (
 A7 @A8p (
 A7 @A8q (
 A7 @A8r (
 A7 @A8s (
 A7 @A8t (
 A7 @A8u (
 A7 @A8v (
 A7 @A8w (
 A7 @A8x (
 A7 @A8y (
 A7 @A8z (
 A7 @A90 (
 A7 @A91 (
 A7 @A92 (
 A7 @A93 (
 A7 @A94 (
 A7 @A95 (
 A7 @A96 (
 A7 @A97 (
 A7 @A98 (
 A7 @A99 (
 A7 @A9A (
 A7 @A9B (
 A7 @A9C (
 A7 @A9D (
 A7 @A9E (
 A7 @A9F (
 A7 @A9G (
 A7 @A9H (
 A7 @A9I (
 A7 @A9J (
 A7 @A9K (
 A7 @A9L (
 A7 @A9M (
 A7 @A9N (
 A7 @A9O (
 A7 @A9P (
 A7 @A9Q (
 A7 @A9R (
 A7 @A9S (
 A7 @A9T (
 A7 @A9U (
 A7 @A9V (
 A7 @A9W (
 A7 @A9X (
 A7 @A9Y (
 A7 @A9Z (
 A7 @A9a (
 A7 @A9b (
 A7 @A9c (
 A7 @A9d (
 A7 @A9e (
 A7 @A9f (
 A7 @A9g (
 A7 @A9h (
 A7 @A9i (
 A7 @A9j (
 A7 @A9k (
 A7 @A9l (
 A7 @A9m (
 A7 @A9n (
 A7 @A9o (
 A7 @A9p (
 A7 @A9q (
 A7 @A9r (
 A7 @A9s (
 A7 @A9t (
 A7 @A9u (
 A7 @A9v (
 A7 @A9w (
 A7 @A9x (
 A7 @A9y (
 A7 @A9z (
 A7 @AA0 (
 A7 @yR (
 A7 @yS (
 A7 @yU (
 A7 @yV (
 A7 @yX (
 A7 @yY (
 A7 @yZ (
 A7 @yc (
 A7 @yf (
 A7 @yg (
 A7 @yh (
 A7 @yj (
 A7 @yl (
 A7 @ym (
 A7 @yn (
 A7 @yo (
 A7 @yt (
 A7 @yu (
 A7 @yw (
 A7 @yx (
 A7 @yz (
 A7 @z8 (
 A7 @zA (
 A7 @zC (
 A7 @zD (
 A7 @zF (
 A7 @zG (
 A7 @zH (
 A7 @zI (
 A7 @zJ (
 A7 @zK (
 A7 @zL (
 A7 @zM (
 A7 @zN (
 A7 @zO (
 A7 @zP (
 A7 @zQ (
 A7 @zR (
 A7 @zS (
 A7 @zT (
 A7 @zU (
 A7 @zV (
 A7 @zW (
 A7 @zX (
 A7 @zY (
 A7 @zZ (
 A7 @za (
 A7 @zb (
 A7 @ze (
 A7 @zf (
 A7 @zg (
 A7 @zh (
 A7 @zi (
 A7 @zk (
 A7 @zm (
 A7 @zn (
 A7 @zo (
 A7 @zq (
 A7 @zt (
 A7 @zu (
 A7 @zw (
 A7 @oW (
 A7 @zx (
 A7 @zy (
 A7 @zz (
 A7 @A00 (
 A7 @A01 (
 A7 @A02 (
 A7 @A03 (
 A7 @A04 (
 A7 @oZ (
 A7 @A05 (
 A7 @A06 (
 A7 @A07 (
 A7 @A08 (
 A7 @A09 (
 A7 @A0A (
 A7 @A0B (
 A7 @A0C (
 A7 @A0D (
 A7 @A0E (
 A7 @A0F (
 A7 @A0G (
 A7 @A0H (
 A7 @A0I (
 A7 @A0J (
 A7 @A0K (
 A7 @A0L (
 A7 @A0M (
 A7 @A0N (
 A7 @A0O (
 A7 @A0P (
 A7 @A0Q (
 A7 @A0R (
 A7 @A0S (
 A7 @A0T (
 A7 @A0U (
 A7 @A0V (
 A7 @A0W (
 A7 @A0X (
 A7 @A0Y (
 A7 @A0Z (
 A7 @A0a (
 A7 @A0b (
 A7 @A0c (
 A7 @A0d (
 A7 @A0e (
 A7 @A0f (
 A7 @A0g (
 A7 @A0h (
 A7 @A0i (
 A7 @A0j (
 A7 @A0k (
 A7 @A0l (
 A7 @A0m (@A0n)))))))))))))))))))))))))))))))))))))))))))))))))))))))))))))))))))))))))))))))))))))))))))))))))))))))))))))))))))))))))))))))))))))))))))))))))))))))))))))))))))))))))))))))))))))))))))))))))))))))))))))))))))))))))))))))))))))))))))))))))))))))))))))))))))))))))))))))))))))))))))))))))))))))))))))))))))))))))))))))))))))))))))))))))))))))))))))))))))))))))))))))))))))))))))))))))))))))))))))))))))))))))))))))))))))))))))))))))))))))))))))))))))))))
theorem AA3(n:Int)(h:0≤n∧n<1099511627776):Y.call 100 [.konst (.slice none 0 0),.int .i64 n] []=some (.own 26 [],[]):=Dv.Sys.call_base (Ri<|aA 100 26 n h)
theorem A2T(zs:AP)(h:zs.length<1099511627776):Y.call 115 [.clo 155 [.cptr [.sl 3 (AR (D.int .i64) zs)]]] []=some (.own 3 (AR (D.int .i64) (Ij zs)),[]):=Dv.Sys.call_base ((Vu 115 155 3 zs h))
theorem ou(zs:AP)(h:zs.length<4611686018427387904):Y.call 152 [.vw [100000] 0 0] [.own 3 (AR (D.int .i64) zs)]=some (.tup [],[.own 3 (AR (D.int .i64) (Ij zs))]):=Dv.Sys.call_base (Ri<|(Zy 152 3 zs h))
theorem kN(xs:List D)(h:xs.length<1099511627776)(hs:xs.all Cq=true)(ho:Al xs=false)(hf:(Dn (.own 3 xs)).isSome=true):Y.call 121 [.sl 3 xs] []=some (.own 3 xs,[]):=by
 cases xs with
 |nil=>exact Dv.Sys.call_base rfl
 |cons x xs=>
  refine Af (Y:=Y) rfl Try.func121 A0o gK ?_;show Br Y.env og (Fa Ag 0 [ResultVar.tmp 2] _) _
  unfold og;have h0:0+(x::xs).length<1099511627776:=by omega
  simp only [ND,JC]at h0;simp only [PQ,gB]at hs ho;simp only [↓AU,nS,AA2,implies_true,Cn,LU,Option.isSome_some,↓reduceIte,Nat.reduceEqDiff,Nat.reduceLT,Nat.reduceLeDiff,Nat.reduceAdd,Nat.reduceMul,Nat.reduceMod,Nat.reduceSub,List.contains_cons,List.contains_nil,Nat.reduceBEq,List.getD_cons_zero,List.getD_cons_succ,List.getD_nil,ND,QS,List.size_toArray,List.toList_toArray,List.zip_cons_cons,List.zip_nil_left,VY,PP,PN,NF,List.map_nil,iX,List.replicate_zero,Yk,X9,List.set_set,PQ,List.any_cons,List.any_nil,List.all_nil,OJ,QR,List.getElem?_nil,List.range_zero,beq_self_eq_true,Int.reduceLE,Int.reduceLT,Int.reduceEq,Int.reduceSub,Int.reduceAdd,Int.reduceToNat,Int.reduceNeg,JC,h0,hs,ho];simp only [vI,gD]at hf;rw [if_pos hf]
set_option linter.defProp false in
def AV:=A7 nS (A7 AF3 (A7 xc2 (A7 A75 AA2)))
abbrev BS:Op:= .assign (.const (.bool false))
abbrev Dl:Operand:= .const (.bool true)
abbrev P6:Op:= .assign (.const (.int .i64 (-1)))
abbrev Qn:Op:= .assign (.const (.slice none 0 0))
abbrev Py:Operand:= .const (.bool false)
abbrev dn:Op:= .fieldAddr 47 (tK 1) 0
abbrev kP:Op:= .unOp .not 4 (tK 18)
end Go.Proofs.Ytclkfhhdikfcpaa
