/- The types of this seat as data, and the system of its calls. Conditions: none. -/
import Derived.Test.YtclkfhhdikfcpaaRows
import Derived.Test.YtclkfhhdikfcpaaL6
import Derived.Test.YtclkfhhdikfcpaaSv
import Derived.KernelRfl
namespace Go.Proofs.Ytclkfhhdikfcpaa
open Go Dv
set_option linter.unusedSimpArgs false
set_option maxRecDepth 100000
def qf:List Ty:=[.other,.func,.int .i64,.int .i64,.bool,.int .u8,.int .u8,.struct [2,3,4,6],.struct [2,3,4,6],.string,.string,.string,.int .u64,.struct [9,12],.struct [9,12],.ptr,.ptr,.ptr,.struct [17],.struct [17],.other,.int .i32,.slice 26,.struct [3,3,22,22],.struct [3,3,22,22],.func,.slice 3,.other,.func,.struct [3,3,22,22],.func,.func,.func,.func,.func,.func,.other,.func,.func,.slice 121,.struct [39,26,26],.struct [39,26,26],.func,.other,.func,.slice 123,.struct [45,26,26],.struct [45,26,26],.func,.func,.func,.other,.func,.func,.func,.func,.struct [3,26,3,3],.struct [3,26,3,3],.other,.func,.func,.func,.struct [3,26,3,3],.func,.func,.func,.func,.func,.slice 4,.func,.struct [3,3,22,22,3,3,22,22,68,68],.struct [3,3,22,22,3,3,22,22,68,68],.func,.func,.func,.ptr,.struct [3,3,22,22,3,3,22,22,26],.struct [3,3,22,22,3,3,22,22,26],.func,.func,.func,.func,.func,.func,.func,.func,.func,.func,.func,.func,.func,.func,.func,.func,.func,.func,.func,.other,.func,.func,.other,.func,.func,.func,.func,.func,.func,.func,.func,.func,.int .u64,.func,.func,.func,.func,.slice 22,.other,.func,.func,.func,.func,.slice 159,.func,.slice 125,.struct [3,3],.struct [3,3],.func,.func,.func,.func,.func,.func,.func,.func,.func,.slice 137,.struct [3,3,3,3],.struct [3,3,3,3],.func,.func,.func,.func,.func,.func,.map 3 3,.func,.func,.func,.func,.func,.func,.int .u32,.other,.func,.int .u64,.other,.func,.func,.func,.struct [3,3],.func,.func,.map 164 3,.arr 14 3,.arr 14 3,.func,.func,.func,.func,.func,.func,.func,.func,.func,.func,.func,.func,.func,.func,.func,.int .i64,.other,.func,.func,.func,.func,.func,.int .u64,.func,.func,.func,.ptr,.func,.ptr,.other,.func,.func,.struct [17,17,17,9],.struct [17,17,17,9],.other,.other,.other,.func,.int .u8,.int .u8,.func,.ptr,.int .i32,.int .i32,.struct [12,12,151,203,5,5,204,205,206,207,208],.struct [12,12,151,203,5,5,204,205,206,207,208],.func]
def vE:List (TypeId×List (Nat×TypeId)):=[(70,[(0,29),(4,29),(8,68),(9,68)]),(71,[(0,29),(4,29),(8,68),(9,68)]),(76,[(0,29),(4,29),(8,26)]),(77,[(0,29),(4,29),(8,26)]),(163,[(0,3),(1,3),(2,3),(3,3),(4,3),(5,3),(6,3),(7,3),(8,3),(9,3),(10,3),(11,3),(12,3),(13,3)]),(164,[(0,3),(1,3),(2,3),(3,3),(4,3),(5,3),(6,3),(7,3),(8,3),(9,3),(10,3),(11,3),(12,3),(13,3)])]
def Ab:Tys:=kH qf vE
def lends(f:FuncId):Bool:=[16,17,30,47,49,79,88,120,128,152,213].contains f
theorem ty1:Ab.ty 1= .func:=nr rfl
theorem ty2:Ab.ty 2= .int .i64:=nr rfl
theorem ty3:Ab.ty 3= .int .i64:=nr rfl
theorem kn3:Ab.known 3=true:=nr rfl
theorem st3:Ab.isStruct 3=false:=nr rfl
theorem zr3:Ab.zeros 3=[.int .i64 0]:=nr rfl
theorem zo3:Ab.zero1 3= .int .i64 0:=nr rfl
theorem sz3:Ab.size 3=1:=nr rfl
theorem ty4:Ab.ty 4= .bool:=nr rfl
theorem kn4:Ab.known 4=true:=nr rfl
theorem st4:Ab.isStruct 4=false:=nr rfl
theorem zr4:Ab.zeros 4=[.bool false]:=nr rfl
theorem zo4:Ab.zero1 4= .bool false:=nr rfl
theorem sz4:Ab.size 4=1:=nr rfl
theorem ty5:Ab.ty 5= .int .u8:=nr rfl
theorem kn5:Ab.known 5=true:=nr rfl
theorem st5:Ab.isStruct 5=false:=nr rfl
theorem zr5:Ab.zeros 5=[.int .u8 0]:=nr rfl
theorem zo5:Ab.zero1 5= .int .u8 0:=nr rfl
theorem sz5:Ab.size 5=1:=nr rfl
theorem ty6:Ab.ty 6= .int .u8:=nr rfl
theorem ty7:Ab.ty 7= .struct [2,3,4,6]:=nr rfl
theorem ty8:Ab.ty 8= .struct [2,3,4,6]:=nr rfl
theorem ty9:Ab.ty 9= .string:=nr rfl
theorem AJm:Ab.ty 10= .string:=nr rfl
theorem AJn:Ab.ty 11= .string:=nr rfl
theorem AJo:Ab.ty 12= .int .u64:=nr rfl
theorem AJp:Ab.ty 13= .struct [9,12]:=nr rfl
theorem AJq:Ab.ty 14= .struct [9,12]:=nr rfl
theorem AJr:Ab.ty 15= .ptr:=nr rfl
theorem AJs:Ab.ty 16= .ptr:=nr rfl
theorem AJt:Ab.ty 17= .ptr:=nr rfl
theorem AJu:Ab.ty 18= .struct [17]:=nr rfl
theorem AJv:Ab.ty 19= .struct [17]:=nr rfl
theorem AJw:Ab.ty 21= .int .i32:=nr rfl
theorem A6l:Ab.ty 22= .slice 26:=nr rfl
theorem A6m:Ab.known 22=true:=nr rfl
theorem A6n:Ab.isStruct 22=false:=nr rfl
theorem A6o:Ab.zeros 22=[.own 26 []]:=nr rfl
theorem A6p:Ab.zero1 22= .own 26 []:=nr rfl
theorem A6q:Ab.size 22=1:=nr rfl
theorem AJx:Ab.ty 23= .struct [3,3,22,22]:=nr rfl
theorem A6r:Ab.ty 24= .struct [3,3,22,22]:=nr rfl
theorem A6s:Ab.known 24=true:=nr rfl
theorem A6t:Ab.isStruct 24=true:=nr rfl
theorem A6u:Ab.zeros 24=[.int .i64 0,.int .i64 0,.own 26 [],.own 26 []]:=nr rfl
theorem A6v:Ab.nest 24=none:=nr rfl
theorem A6w:Ab.size 24=4:=nr rfl
theorem AJy:Ab.ty 25= .func:=nr rfl
theorem A2K:Ab.ty 26= .slice 3:=nr rfl
theorem A2L:Ab.known 26=true:=nr rfl
theorem A6x:Ab.isStruct 26=false:=nr rfl
theorem A6y:Ab.zeros 26=[.own 3 []]:=nr rfl
theorem A6z:Ab.zero1 26= .own 3 []:=nr rfl
theorem A2M:Ab.size 26=1:=nr rfl
theorem AJz:Ab.ty 28= .func:=nr rfl
theorem A70:Ab.ty 29= .struct [3,3,22,22]:=nr rfl
theorem A71:Ab.known 29=true:=nr rfl
theorem A72:Ab.isStruct 29=true:=nr rfl
theorem A73:Ab.zeros 29=[.int .i64 0,.int .i64 0,.own 26 [],.own 26 []]:=nr rfl
theorem A74:Ab.nest 29=none:=nr rfl
theorem A75:Ab.size 29=4:=nr rfl
theorem AK0:Ab.ty 30= .func:=nr rfl
theorem AK1:Ab.ty 31= .func:=nr rfl
theorem AK2:Ab.ty 32= .func:=nr rfl
theorem AK3:Ab.ty 33= .func:=nr rfl
theorem AK4:Ab.ty 34= .func:=nr rfl
theorem AK5:Ab.ty 35= .func:=nr rfl
theorem AK6:Ab.ty 37= .func:=nr rfl
theorem AK7:Ab.ty 38= .func:=nr rfl
theorem A2N:Ab.ty 39= .slice 121:=nr rfl
theorem A76:Ab.known 39=true:=nr rfl
theorem A77:Ab.isStruct 39=false:=nr rfl
theorem A78:Ab.zeros 39=[.own 121 []]:=nr rfl
theorem A79:Ab.zero1 39= .own 121 []:=nr rfl
theorem A7A:Ab.size 39=1:=nr rfl
theorem AK8:Ab.ty 40= .struct [39,26,26]:=nr rfl
theorem A2O:Ab.ty 41= .struct [39,26,26]:=nr rfl
theorem A7B:Ab.known 41=true:=nr rfl
theorem A7C:Ab.isStruct 41=true:=nr rfl
theorem A7D:Ab.zeros 41=[.own 121 [],.own 3 [],.own 3 []]:=nr rfl
theorem A7E:Ab.nest 41=none:=nr rfl
theorem A7F:Ab.size 41=3:=nr rfl
theorem AK9:Ab.ty 42= .func:=nr rfl
theorem AKA:Ab.ty 44= .func:=nr rfl
theorem A7G:Ab.ty 45= .slice 123:=nr rfl
theorem A7H:Ab.known 45=true:=nr rfl
theorem A7I:Ab.isStruct 45=false:=nr rfl
theorem A7J:Ab.zeros 45=[.own 123 []]:=nr rfl
theorem A7K:Ab.zero1 45= .own 123 []:=nr rfl
theorem A7L:Ab.size 45=1:=nr rfl
theorem AKB:Ab.ty 46= .struct [45,26,26]:=nr rfl
theorem A7M:Ab.ty 47= .struct [45,26,26]:=nr rfl
theorem A7N:Ab.known 47=true:=nr rfl
theorem A7O:Ab.isStruct 47=true:=nr rfl
theorem A7P:Ab.zeros 47=[.own 123 [],.own 3 [],.own 3 []]:=nr rfl
theorem A7Q:Ab.nest 47=none:=nr rfl
theorem A7R:Ab.size 47=3:=nr rfl
theorem AKC:Ab.ty 48= .func:=nr rfl
theorem AKD:Ab.ty 49= .func:=nr rfl
theorem AKE:Ab.ty 50= .func:=nr rfl
theorem AKF:Ab.ty 52= .func:=nr rfl
theorem AKG:Ab.ty 53= .func:=nr rfl
theorem AKH:Ab.ty 54= .func:=nr rfl
theorem AKI:Ab.ty 55= .func:=nr rfl
theorem AKJ:Ab.ty 56= .struct [3,26,3,3]:=nr rfl
theorem A7S:Ab.ty 57= .struct [3,26,3,3]:=nr rfl
theorem A7T:Ab.known 57=true:=nr rfl
theorem A7U:Ab.isStruct 57=true:=nr rfl
theorem A7V:Ab.zeros 57=[.int .i64 0,.own 3 [],.int .i64 0,.int .i64 0]:=nr rfl
theorem A7W:Ab.nest 57=none:=nr rfl
theorem A7X:Ab.size 57=4:=nr rfl
theorem AKK:Ab.ty 59= .func:=nr rfl
theorem AKL:Ab.ty 60= .func:=nr rfl
theorem AKM:Ab.ty 61= .func:=nr rfl
theorem A7Y:Ab.ty 62= .struct [3,26,3,3]:=nr rfl
theorem A7Z:Ab.known 62=true:=nr rfl
theorem A7a:Ab.isStruct 62=true:=nr rfl
theorem A7b:Ab.zeros 62=[.int .i64 0,.own 3 [],.int .i64 0,.int .i64 0]:=nr rfl
theorem A7c:Ab.nest 62=none:=nr rfl
theorem A7d:Ab.size 62=4:=nr rfl
theorem AKN:Ab.ty 63= .func:=nr rfl
theorem AKO:Ab.ty 64= .func:=nr rfl
theorem AKP:Ab.ty 65= .func:=nr rfl
theorem AKQ:Ab.ty 66= .func:=nr rfl
theorem AKR:Ab.ty 67= .func:=nr rfl
theorem A7e:Ab.ty 68= .slice 4:=nr rfl
theorem A7f:Ab.known 68=true:=nr rfl
theorem A7g:Ab.isStruct 68=false:=nr rfl
theorem A7h:Ab.zeros 68=[.own 4 []]:=nr rfl
theorem A7i:Ab.zero1 68= .own 4 []:=nr rfl
theorem A7j:Ab.size 68=1:=nr rfl
theorem AKS:Ab.ty 69= .func:=nr rfl
theorem AKT:Ab.ty 70= .struct [3,3,22,22,3,3,22,22,68,68]:=nr rfl
theorem A7k:Ab.ty 71= .struct [3,3,22,22,3,3,22,22,68,68]:=nr rfl
theorem A7l:Ab.known 71=true:=nr rfl
theorem A7m:Ab.isStruct 71=true:=nr rfl
theorem A7n:Ab.zeros 71=[.int .i64 0,.int .i64 0,.own 26 [],.own 26 [],.int .i64 0,.int .i64 0,.own 26 [],.own 26 [],.own 4 [],.own 4 []]:=nr rfl
theorem A7o:Ab.nest 71=some [(0,29),(4,29),(8,68),(9,68)]:=nr rfl
theorem o5:Ab.foff 71 0=some 0:=nr rfl
theorem o6:Ab.foff 71 1=some 4:=nr rfl
theorem o7:Ab.foff 71 2=some 8:=nr rfl
theorem o8:Ab.foff 71 3=some 9:=nr rfl
theorem A7p:Ab.size 71=10:=nr rfl
theorem AKU:Ab.ty 72= .func:=nr rfl
theorem AKV:Ab.ty 73= .func:=nr rfl
theorem AKW:Ab.ty 74= .func:=nr rfl
theorem A7q:Ab.ty 75= .ptr:=nr rfl
theorem A7r:Ab.known 75=true:=nr rfl
theorem A7s:Ab.isStruct 75=false:=nr rfl
theorem A7t:Ab.zeros 75=[.konst (.pointer none)]:=nr rfl
theorem A7u:Ab.zero1 75= .konst (.pointer none):=nr rfl
theorem A7v:Ab.size 75=1:=nr rfl
theorem AKX:Ab.ty 76= .struct [3,3,22,22,3,3,22,22,26]:=nr rfl
theorem A7w:Ab.ty 77= .struct [3,3,22,22,3,3,22,22,26]:=nr rfl
theorem A7x:Ab.known 77=true:=nr rfl
theorem A7y:Ab.isStruct 77=true:=nr rfl
theorem A7z:Ab.zeros 77=[.int .i64 0,.int .i64 0,.own 26 [],.own 26 [],.int .i64 0,.int .i64 0,.own 26 [],.own 26 [],.own 3 []]:=nr rfl
theorem A80:Ab.nest 77=some [(0,29),(4,29),(8,26)]:=nr rfl
theorem o9:Ab.foff 77 0=some 0:=nr rfl
theorem oD:Ab.foff 77 1=some 4:=nr rfl
theorem oG:Ab.foff 77 2=some 8:=nr rfl
theorem A81:Ab.size 77=9:=nr rfl
theorem AKY:Ab.ty 78= .func:=nr rfl
theorem AKZ:Ab.ty 79= .func:=nr rfl
theorem AKa:Ab.ty 80= .func:=nr rfl
theorem AKb:Ab.ty 81= .func:=nr rfl
theorem AKc:Ab.ty 82= .func:=nr rfl
theorem AKd:Ab.ty 83= .func:=nr rfl
theorem AKe:Ab.ty 84= .func:=nr rfl
theorem AKf:Ab.ty 85= .func:=nr rfl
theorem AKg:Ab.ty 86= .func:=nr rfl
theorem A82:Ab.ty 87= .func:=nr rfl
theorem A83:Ab.known 87=true:=nr rfl
theorem A84:Ab.isStruct 87=false:=nr rfl
theorem A85:Ab.zeros 87=[.konst .nilFunc]:=nr rfl
theorem A86:Ab.zero1 87= .konst .nilFunc:=nr rfl
theorem A87:Ab.size 87=1:=nr rfl
theorem AKh:Ab.ty 88= .func:=nr rfl
theorem AKi:Ab.ty 89= .func:=nr rfl
theorem AKj:Ab.ty 90= .func:=nr rfl
theorem AKk:Ab.ty 91= .func:=nr rfl
theorem AKl:Ab.ty 92= .func:=nr rfl
theorem AKm:Ab.ty 93= .func:=nr rfl
theorem AKn:Ab.ty 94= .func:=nr rfl
theorem AKo:Ab.ty 95= .func:=nr rfl
theorem A88:Ab.ty 96= .func:=nr rfl
theorem A89:Ab.known 96=true:=nr rfl
theorem A8A:Ab.isStruct 96=false:=nr rfl
theorem A8B:Ab.zeros 96=[.konst .nilFunc]:=nr rfl
theorem A8C:Ab.zero1 96= .konst .nilFunc:=nr rfl
theorem A8D:Ab.size 96=1:=nr rfl
theorem AKp:Ab.ty 98= .func:=nr rfl
theorem AKq:Ab.ty 99= .func:=nr rfl
theorem AGv:Ab.ty 101= .func:=nr rfl
theorem AGw:Ab.ty 102= .func:=nr rfl
theorem AGx:Ab.ty 103= .func:=nr rfl
theorem AGy:Ab.ty 104= .func:=nr rfl
theorem AGz:Ab.ty 105= .func:=nr rfl
theorem AH0:Ab.ty 106= .func:=nr rfl
theorem AH1:Ab.ty 107= .func:=nr rfl
theorem AH2:Ab.ty 108= .func:=nr rfl
theorem AH3:Ab.ty 109= .func:=nr rfl
theorem vK:Ab.ty 110= .int .u64:=nr rfl
theorem vL:Ab.known 110=true:=nr rfl
theorem vM:Ab.isStruct 110=false:=nr rfl
theorem vN:Ab.zeros 110=[.int .u64 0]:=nr rfl
theorem vO:Ab.zero1 110= .int .u64 0:=nr rfl
theorem vP:Ab.size 110=1:=nr rfl
theorem AH4:Ab.ty 111= .func:=nr rfl
theorem AH5:Ab.ty 112= .func:=nr rfl
theorem AH6:Ab.ty 113= .func:=nr rfl
theorem AH7:Ab.ty 114= .func:=nr rfl
theorem vQ:Ab.ty 115= .slice 22:=nr rfl
theorem vR:Ab.known 115=true:=nr rfl
theorem vS:Ab.isStruct 115=false:=nr rfl
theorem vT:Ab.zeros 115=[.own 22 []]:=nr rfl
theorem vU:Ab.zero1 115= .own 22 []:=nr rfl
theorem vV:Ab.size 115=1:=nr rfl
theorem AH8:Ab.ty 117= .func:=nr rfl
theorem AH9:Ab.ty 118= .func:=nr rfl
theorem AHA:Ab.ty 119= .func:=nr rfl
theorem AHB:Ab.ty 120= .func:=nr rfl
theorem oH:Ab.ty 121= .slice 159:=nr rfl
theorem vW:Ab.known 121=true:=nr rfl
theorem vX:Ab.isStruct 121=false:=nr rfl
theorem vY:Ab.zeros 121=[.own 159 []]:=nr rfl
theorem vZ:Ab.zero1 121= .own 159 []:=nr rfl
theorem vg:Ab.size 121=1:=nr rfl
theorem AHC:Ab.ty 122= .func:=nr rfl
theorem vk:Ab.ty 123= .slice 125:=nr rfl
theorem vo:Ab.known 123=true:=nr rfl
theorem vz:Ab.isStruct 123=false:=nr rfl
theorem w9:Ab.zeros 123=[.own 125 []]:=nr rfl
theorem wB:Ab.zero1 123= .own 125 []:=nr rfl
theorem wC:Ab.size 123=1:=nr rfl
theorem AHD:Ab.ty 124= .struct [3,3]:=nr rfl
theorem wD:Ab.ty 125= .struct [3,3]:=nr rfl
theorem wE:Ab.known 125=true:=nr rfl
theorem wF:Ab.isStruct 125=true:=nr rfl
theorem wG:Ab.zeros 125=[.int .i64 0,.int .i64 0]:=nr rfl
theorem wH:Ab.nest 125=none:=nr rfl
theorem wI:Ab.size 125=2:=nr rfl
theorem AHE:Ab.ty 126= .func:=nr rfl
theorem AHF:Ab.ty 127= .func:=nr rfl
theorem AHG:Ab.ty 128= .func:=nr rfl
theorem AHH:Ab.ty 129= .func:=nr rfl
theorem AHI:Ab.ty 130= .func:=nr rfl
theorem wJ:Ab.ty 131= .func:=nr rfl
theorem wK:Ab.known 131=true:=nr rfl
theorem wL:Ab.isStruct 131=false:=nr rfl
theorem wM:Ab.zeros 131=[.konst .nilFunc]:=nr rfl
theorem wN:Ab.zero1 131= .konst .nilFunc:=nr rfl
theorem wO:Ab.size 131=1:=nr rfl
theorem wP:Ab.ty 132= .func:=nr rfl
theorem wQ:Ab.known 132=true:=nr rfl
theorem wR:Ab.isStruct 132=false:=nr rfl
theorem wS:Ab.zeros 132=[.konst .nilFunc]:=nr rfl
theorem wT:Ab.zero1 132= .konst .nilFunc:=nr rfl
theorem wU:Ab.size 132=1:=nr rfl
theorem AHJ:Ab.ty 133= .func:=nr rfl
theorem AHK:Ab.ty 134= .func:=nr rfl
theorem wV:Ab.ty 135= .slice 137:=nr rfl
theorem wW:Ab.known 135=true:=nr rfl
theorem wX:Ab.isStruct 135=false:=nr rfl
theorem wY:Ab.zeros 135=[.own 137 []]:=nr rfl
theorem wZ:Ab.zero1 135= .own 137 []:=nr rfl
theorem wh:Ab.size 135=1:=nr rfl
theorem AHL:Ab.ty 136= .struct [3,3,3,3]:=nr rfl
theorem wm:Ab.ty 137= .struct [3,3,3,3]:=nr rfl
theorem wo:Ab.known 137=true:=nr rfl
theorem wu:Ab.isStruct 137=true:=nr rfl
theorem ww:Ab.zeros 137=[.int .i64 0,.int .i64 0,.int .i64 0,.int .i64 0]:=nr rfl
theorem wy:Ab.nest 137=none:=nr rfl
theorem wz:Ab.size 137=4:=nr rfl
theorem AHM:Ab.ty 138= .func:=nr rfl
theorem x8:Ab.ty 139= .func:=nr rfl
theorem x9:Ab.known 139=true:=nr rfl
theorem xA:Ab.isStruct 139=false:=nr rfl
theorem xB:Ab.zeros 139=[.konst .nilFunc]:=nr rfl
theorem xC:Ab.zero1 139= .konst .nilFunc:=nr rfl
theorem xD:Ab.size 139=1:=nr rfl
theorem AHN:Ab.ty 140= .func:=nr rfl
theorem AHO:Ab.ty 141= .func:=nr rfl
theorem AHP:Ab.ty 142= .func:=nr rfl
theorem AHQ:Ab.ty 143= .func:=nr rfl
theorem xE:Ab.ty 144= .map 3 3:=nr rfl
theorem AHR:Ab.ty 145= .func:=nr rfl
theorem AHS:Ab.ty 146= .func:=nr rfl
theorem AHT:Ab.ty 147= .func:=nr rfl
theorem xF:Ab.ty 148= .func:=nr rfl
theorem xG:Ab.known 148=true:=nr rfl
theorem xH:Ab.isStruct 148=false:=nr rfl
theorem xI:Ab.zeros 148=[.konst .nilFunc]:=nr rfl
theorem xJ:Ab.zero1 148= .konst .nilFunc:=nr rfl
theorem xK:Ab.size 148=1:=nr rfl
theorem AHU:Ab.ty 149= .func:=nr rfl
theorem AHV:Ab.ty 150= .func:=nr rfl
theorem xL:Ab.ty 151= .int .u32:=nr rfl
theorem xM:Ab.known 151=true:=nr rfl
theorem xN:Ab.isStruct 151=false:=nr rfl
theorem xO:Ab.zeros 151=[.int .u32 0]:=nr rfl
theorem xP:Ab.zero1 151= .int .u32 0:=nr rfl
theorem xQ:Ab.size 151=1:=nr rfl
theorem AHW:Ab.ty 153= .func:=nr rfl
theorem xR:Ab.ty 154= .int .u64:=nr rfl
theorem xS:Ab.known 154=true:=nr rfl
theorem xU:Ab.isStruct 154=false:=nr rfl
theorem xV:Ab.zeros 154=[.int .u64 0]:=nr rfl
theorem xW:Ab.zero1 154= .int .u64 0:=nr rfl
theorem xX:Ab.size 154=1:=nr rfl
theorem AHX:Ab.ty 156= .func:=nr rfl
theorem AHY:Ab.ty 157= .func:=nr rfl
theorem AHZ:Ab.ty 158= .func:=nr rfl
theorem oJ:Ab.ty 159= .struct [3,3]:=nr rfl
theorem xY:Ab.known 159=true:=nr rfl
theorem xZ:Ab.isStruct 159=true:=nr rfl
theorem xc:Ab.zeros 159=[.int .i64 0,.int .i64 0]:=nr rfl
theorem xe:Ab.nest 159=none:=nr rfl
theorem xf:Ab.size 159=2:=nr rfl
theorem AHa:Ab.ty 160= .func:=nr rfl
theorem AHb:Ab.ty 161= .func:=nr rfl
theorem xg:Ab.ty 162= .map 164 3:=nr rfl
theorem AHc:Ab.ty 163= .arr 14 3:=nr rfl
theorem xh:Ab.ty 164= .arr 14 3:=nr rfl
theorem xk:Ab.known 164=true:=nr rfl
theorem xm:Ab.isStruct 164=true:=nr rfl
theorem xn:Ab.zeros 164=[.int .i64 0,.int .i64 0,.int .i64 0,.int .i64 0,.int .i64 0,.int .i64 0,.int .i64 0,.int .i64 0,.int .i64 0,.int .i64 0,.int .i64 0,.int .i64 0,.int .i64 0,.int .i64 0]:=nr rfl
theorem xq:Ab.nest 164=some [(0,3),(1,3),(2,3),(3,3),(4,3),(5,3),(6,3),(7,3),(8,3),(9,3),(10,3),(11,3),(12,3),(13,3)]:=nr rfl
theorem xu:Ab.size 164=14:=nr rfl
theorem AHd:Ab.ty 165= .func:=nr rfl
theorem AHe:Ab.ty 166= .func:=nr rfl
theorem xw:Ab.ty 167= .func:=nr rfl
theorem xx:Ab.known 167=true:=nr rfl
theorem xy:Ab.isStruct 167=false:=nr rfl
theorem xz:Ab.zeros 167=[.konst .nilFunc]:=nr rfl
theorem y5:Ab.zero1 167= .konst .nilFunc:=nr rfl
theorem y7:Ab.size 167=1:=nr rfl
theorem AHf:Ab.ty 168= .func:=nr rfl
theorem AHg:Ab.ty 169= .func:=nr rfl
theorem AHh:Ab.ty 170= .func:=nr rfl
theorem AHi:Ab.ty 171= .func:=nr rfl
theorem AHj:Ab.ty 172= .func:=nr rfl
theorem AHk:Ab.ty 173= .func:=nr rfl
theorem AHl:Ab.ty 174= .func:=nr rfl
theorem AHm:Ab.ty 175= .func:=nr rfl
theorem AHn:Ab.ty 176= .func:=nr rfl
theorem AHo:Ab.ty 177= .func:=nr rfl
theorem AHp:Ab.ty 178= .func:=nr rfl
theorem AHq:Ab.ty 179= .func:=nr rfl
theorem y8:Ab.ty 180= .int .i64:=nr rfl
theorem y9:Ab.known 180=true:=nr rfl
theorem yA:Ab.isStruct 180=false:=nr rfl
theorem yB:Ab.zeros 180=[.int .i64 0]:=nr rfl
theorem yC:Ab.zero1 180= .int .i64 0:=nr rfl
theorem yD:Ab.size 180=1:=nr rfl
theorem AHr:Ab.ty 182= .func:=nr rfl
theorem AHs:Ab.ty 183= .func:=nr rfl
theorem AHt:Ab.ty 184= .func:=nr rfl
theorem AHu:Ab.ty 185= .func:=nr rfl
theorem AHv:Ab.ty 186= .func:=nr rfl
theorem yE:Ab.ty 187= .int .u64:=nr rfl
theorem yF:Ab.known 187=true:=nr rfl
theorem yG:Ab.isStruct 187=false:=nr rfl
theorem yH:Ab.zeros 187=[.int .u64 0]:=nr rfl
theorem yI:Ab.zero1 187= .int .u64 0:=nr rfl
theorem yJ:Ab.size 187=1:=nr rfl
theorem AHw:Ab.ty 188= .func:=nr rfl
theorem AHx:Ab.ty 189= .func:=nr rfl
theorem AHy:Ab.ty 190= .func:=nr rfl
theorem yK:Ab.ty 191= .ptr:=nr rfl
theorem yM:Ab.known 191=true:=nr rfl
theorem yN:Ab.isStruct 191=false:=nr rfl
theorem yO:Ab.zeros 191=[.konst (.pointer none)]:=nr rfl
theorem yP:Ab.zero1 191= .konst (.pointer none):=nr rfl
theorem yQ:Ab.size 191=1:=nr rfl
theorem AHz:Ab.ty 192= .func:=nr rfl
theorem AI0:Ab.ty 193= .ptr:=nr rfl
theorem AI1:Ab.ty 195= .func:=nr rfl
theorem AI2:Ab.ty 196= .func:=nr rfl
theorem AI3:Ab.ty 197= .struct [17,17,17,9]:=nr rfl
theorem AI4:Ab.ty 198= .struct [17,17,17,9]:=nr rfl
theorem AI5:Ab.ty 202= .func:=nr rfl
theorem AI6:Ab.ty 203= .int .u8:=nr rfl
theorem AI7:Ab.ty 204= .int .u8:=nr rfl
theorem AI8:Ab.ty 205= .func:=nr rfl
theorem AI9:Ab.ty 206= .ptr:=nr rfl
theorem AIA:Ab.ty 207= .int .i32:=nr rfl
theorem AIB:Ab.ty 208= .int .i32:=nr rfl
theorem AIC:Ab.ty 209= .struct [12,12,151,203,5,5,204,205,206,207,208]:=nr rfl
theorem AID:Ab.ty 210= .struct [12,12,151,203,5,5,204,205,206,207,208]:=nr rfl
theorem AIE:Ab.ty 211= .func:=nr rfl
theorem le3:lends 3=false:=nr rfl
theorem le4:lends 4=false:=nr rfl
theorem le5:lends 5=false:=nr rfl
theorem le6:lends 6=false:=nr rfl
theorem le7:lends 7=false:=nr rfl
theorem le8:lends 8=false:=nr rfl
theorem le9:lends 9=false:=nr rfl
theorem A8E:lends 10=false:=nr rfl
theorem A8F:lends 11=false:=nr rfl
theorem A8G:lends 12=false:=nr rfl
theorem A8H:lends 13=false:=nr rfl
theorem A8I:lends 14=false:=nr rfl
theorem A8J:lends 15=false:=nr rfl
theorem A8K:lends 16=true:=nr rfl
theorem A8L:lends 17=true:=nr rfl
theorem A8M:lends 18=false:=nr rfl
theorem A8N:lends 19=false:=nr rfl
theorem A8O:lends 20=false:=nr rfl
theorem A8P:lends 21=false:=nr rfl
theorem A8Q:lends 22=false:=nr rfl
theorem A8R:lends 23=false:=nr rfl
theorem A8S:lends 24=false:=nr rfl
theorem A8T:lends 25=false:=nr rfl
theorem A8U:lends 26=false:=nr rfl
theorem A8V:lends 27=false:=nr rfl
theorem A8W:lends 28=false:=nr rfl
theorem A8X:lends 29=false:=nr rfl
theorem A8Y:lends 30=true:=nr rfl
theorem A8Z:lends 31=false:=nr rfl
theorem A8a:lends 32=false:=nr rfl
theorem A8b:lends 33=false:=nr rfl
theorem A8c:lends 34=false:=nr rfl
theorem A8d:lends 35=false:=nr rfl
theorem A8e:lends 36=false:=nr rfl
theorem A8f:lends 37=false:=nr rfl
theorem A8g:lends 38=false:=nr rfl
theorem A8h:lends 39=false:=nr rfl
theorem A8i:lends 40=false:=nr rfl
theorem A8j:lends 41=false:=nr rfl
theorem A8k:lends 42=false:=nr rfl
theorem A8l:lends 43=false:=nr rfl
theorem A8m:lends 44=false:=nr rfl
theorem A8n:lends 45=false:=nr rfl
theorem A8o:lends 46=false:=nr rfl
theorem A8p:lends 47=true:=nr rfl
theorem A8q:lends 48=false:=nr rfl
theorem A8r:lends 49=true:=nr rfl
theorem A8s:lends 50=false:=nr rfl
theorem A8t:lends 51=false:=nr rfl
theorem A8u:lends 52=false:=nr rfl
theorem A8v:lends 53=false:=nr rfl
theorem A8w:lends 54=false:=nr rfl
theorem A8x:lends 55=false:=nr rfl
theorem A8y:lends 56=false:=nr rfl
theorem A8z:lends 57=false:=nr rfl
theorem A90:lends 58=false:=nr rfl
theorem A91:lends 59=false:=nr rfl
theorem A92:lends 60=false:=nr rfl
theorem A93:lends 61=false:=nr rfl
theorem A94:lends 62=false:=nr rfl
theorem A95:lends 63=false:=nr rfl
theorem A96:lends 64=false:=nr rfl
theorem A97:lends 65=false:=nr rfl
theorem A98:lends 66=false:=nr rfl
theorem A99:lends 67=false:=nr rfl
theorem A9A:lends 68=false:=nr rfl
theorem A9B:lends 69=false:=nr rfl
theorem A9C:lends 70=false:=nr rfl
theorem A9D:lends 71=false:=nr rfl
theorem A9E:lends 72=false:=nr rfl
theorem A9F:lends 73=false:=nr rfl
theorem A9G:lends 74=false:=nr rfl
theorem A9H:lends 75=false:=nr rfl
theorem A9I:lends 76=false:=nr rfl
theorem A9J:lends 77=false:=nr rfl
theorem A9K:lends 78=false:=nr rfl
theorem A9L:lends 79=true:=nr rfl
theorem A9M:lends 80=false:=nr rfl
theorem A9N:lends 81=false:=nr rfl
theorem A9O:lends 82=false:=nr rfl
theorem A9P:lends 83=false:=nr rfl
theorem A9Q:lends 84=false:=nr rfl
theorem A9R:lends 85=false:=nr rfl
theorem A9S:lends 86=false:=nr rfl
theorem A9T:lends 87=false:=nr rfl
theorem A9U:lends 88=true:=nr rfl
theorem A9V:lends 89=false:=nr rfl
theorem A9W:lends 90=false:=nr rfl
theorem A9X:lends 91=false:=nr rfl
theorem A9Y:lends 92=false:=nr rfl
theorem A9Z:lends 93=false:=nr rfl
theorem A9a:lends 94=false:=nr rfl
theorem A9b:lends 95=false:=nr rfl
theorem A9c:lends 96=false:=nr rfl
theorem A9d:lends 97=false:=nr rfl
theorem A9e:lends 98=false:=nr rfl
theorem A9f:lends 99=false:=nr rfl
theorem yR:lends 100=false:=nr rfl
theorem yS:lends 101=false:=nr rfl
theorem yU:lends 102=false:=nr rfl
theorem yV:lends 103=false:=nr rfl
theorem yX:lends 104=false:=nr rfl
theorem yY:lends 105=false:=nr rfl
theorem yZ:lends 106=false:=nr rfl
theorem yc:lends 107=false:=nr rfl
theorem yf:lends 108=false:=nr rfl
theorem yg:lends 109=false:=nr rfl
theorem yh:lends 110=false:=nr rfl
theorem yj:lends 111=false:=nr rfl
theorem yl:lends 112=false:=nr rfl
theorem ym:lends 113=false:=nr rfl
theorem yn:lends 114=false:=nr rfl
theorem yo:lends 115=false:=nr rfl
theorem yt:lends 116=false:=nr rfl
theorem yu:lends 117=false:=nr rfl
theorem yw:lends 118=false:=nr rfl
theorem oK:lends 119=false:=nr rfl
theorem yx:lends 120=true:=nr rfl
theorem yz:lends 121=false:=nr rfl
theorem z8:lends 122=false:=nr rfl
theorem zA:lends 123=false:=nr rfl
theorem zC:lends 124=false:=nr rfl
theorem zD:lends 125=false:=nr rfl
theorem zF:lends 126=false:=nr rfl
theorem zG:lends 127=false:=nr rfl
theorem zH:lends 128=true:=nr rfl
theorem zI:lends 129=false:=nr rfl
theorem zJ:lends 130=false:=nr rfl
theorem zK:lends 131=false:=nr rfl
theorem zL:lends 132=false:=nr rfl
theorem zM:lends 133=false:=nr rfl
theorem zN:lends 134=false:=nr rfl
theorem zO:lends 135=false:=nr rfl
theorem zP:lends 136=false:=nr rfl
theorem zQ:lends 137=false:=nr rfl
theorem zR:lends 138=false:=nr rfl
theorem zS:lends 139=false:=nr rfl
theorem zT:lends 140=false:=nr rfl
theorem zU:lends 141=false:=nr rfl
theorem zV:lends 142=false:=nr rfl
theorem zW:lends 143=false:=nr rfl
theorem zX:lends 144=false:=nr rfl
theorem zY:lends 145=false:=nr rfl
theorem zZ:lends 146=false:=nr rfl
theorem za:lends 147=false:=nr rfl
theorem zb:lends 148=false:=nr rfl
theorem ze:lends 149=false:=nr rfl
theorem zf:lends 150=false:=nr rfl
theorem zg:lends 151=false:=nr rfl
theorem zh:lends 152=true:=nr rfl
theorem zi:lends 153=false:=nr rfl
theorem zk:lends 154=false:=nr rfl
theorem zm:lends 155=false:=nr rfl
theorem zn:lends 156=false:=nr rfl
theorem zo:lends 157=false:=nr rfl
theorem zq:lends 158=false:=nr rfl
theorem zt:lends 159=false:=nr rfl
theorem zu:lends 160=false:=nr rfl
theorem zw:lends 161=false:=nr rfl
theorem zx:lends 162=false:=nr rfl
theorem zy:lends 163=false:=nr rfl
theorem zz:lends 164=false:=nr rfl
theorem A00:lends 165=false:=nr rfl
theorem A01:lends 166=false:=nr rfl
theorem A02:lends 167=false:=nr rfl
theorem A03:lends 168=false:=nr rfl
theorem A04:lends 169=false:=nr rfl
theorem oO:lends 170=false:=nr rfl
theorem A05:lends 171=false:=nr rfl
theorem A06:lends 172=false:=nr rfl
theorem A07:lends 173=false:=nr rfl
theorem A08:lends 174=false:=nr rfl
theorem A09:lends 175=false:=nr rfl
theorem A0A:lends 176=false:=nr rfl
theorem A0B:lends 177=false:=nr rfl
theorem A0C:lends 178=false:=nr rfl
theorem A0D:lends 179=false:=nr rfl
theorem A0E:lends 180=false:=nr rfl
theorem A0F:lends 181=false:=nr rfl
theorem A0G:lends 182=false:=nr rfl
theorem A0H:lends 183=false:=nr rfl
theorem A0I:lends 184=false:=nr rfl
theorem A0J:lends 185=false:=nr rfl
theorem A0K:lends 186=false:=nr rfl
theorem A0L:lends 187=false:=nr rfl
theorem A0M:lends 188=false:=nr rfl
theorem A0N:lends 189=false:=nr rfl
theorem A0O:lends 190=false:=nr rfl
theorem A0P:lends 191=false:=nr rfl
theorem A0Q:lends 192=false:=nr rfl
theorem A0R:lends 193=false:=nr rfl
theorem A0S:lends 194=false:=nr rfl
theorem A0T:lends 195=false:=nr rfl
theorem A0U:lends 196=false:=nr rfl
theorem A0V:lends 197=false:=nr rfl
theorem A0W:lends 198=false:=nr rfl
theorem A0X:lends 199=false:=nr rfl
theorem A0Y:lends 200=false:=nr rfl
theorem A0Z:lends 201=false:=nr rfl
theorem A0a:lends 202=false:=nr rfl
theorem A0b:lends 203=false:=nr rfl
theorem A0c:lends 204=false:=nr rfl
theorem A0d:lends 205=false:=nr rfl
theorem A0e:lends 206=false:=nr rfl
theorem A0f:lends 207=false:=nr rfl
theorem A0g:lends 208=false:=nr rfl
theorem A0h:lends 209=false:=nr rfl
theorem A0i:lends 210=false:=nr rfl
theorem A0j:lends 211=false:=nr rfl
theorem A0k:lends 212=false:=nr rfl
theorem A0l:lends 213=true:=nr rfl
theorem A0m:lends 214=false:=nr rfl
theorem A0n:lends 215=false:=nr rfl
set_option maxRecDepth 100000 in
theorem su:Bg Try.prog Ab:=A1S (by kernel_rfl)
theorem mixed:Try.prog.follows .mixedOrders=true:=by kernel_rfl
noncomputable def Y0:Dv.Sys:={P:=Try.prog,T:=Ab,lends:=lends,base:=fun _ _ _=>none}
theorem AEZ:Dv.Sys.Ok Y0:=⟨su,mixed,fun _ _ _ _ _ h=>by cases h⟩
theorem AEa(T:Tys)(s:St)(t:TypeId):ev T s t (.const .nilFunc)=some (.konst .nilFunc):=nr rfl
theorem AEb(T:Tys)(s:St)(t:TypeId):ev T s t (.const .nilIface)=some (.konst .nilIface):=nr rfl
theorem AEc(T:Tys)(s:St)(t:TypeId):ev T s t (.const (.pointer none))=some (.konst (.pointer none)):=nr rfl
theorem y0T:Y0.T=Ab:=nr rfl
theorem y0L:Y0.lends=lends:=nr rfl
set_option maxRecDepth 10000 in
set_option linter.defProp false in
def A9g:=
 A7 @y0T (
 A7 @y0L (
 A7 @ty3 (
 A7 @ty4 (
 A7 @ty5 (
 A7 @A6l (
 A7 @A6r (
 A7 @A2K (
 A7 @A70 (
 A7 @A2N (
 A7 @A2O (
 A7 @A7G (
 A7 @A7M (
 A7 @A7S (
 A7 @A7Y (
 A7 @A7e (
 A7 @A7k (
 A7 @A7q (
 A7 @A7w (
 A7 @A82 (
 A7 @A88 (
 A7 @vK (
 A7 @vQ (
 A7 @oH (
 A7 @vk (
 A7 @wD (
 A7 @wJ (
 A7 @wP (
 A7 @wV (
 A7 @wm (
 A7 @x8 (
 A7 @xE (
 A7 @xF (
 A7 @xL (
 A7 @xR (
 A7 @oJ (
 A7 @xg (
 A7 @xh (
 A7 @xw (
 A7 @y8 (
 A7 @yE (
 A7 @yK (
 A7 @kn3 (
 A7 @st3 (
 A7 @sz3 (
 A7 @zr3 (
 A7 @kn4 (
 A7 @st4 (
 A7 @sz4 (
 A7 @zr4 (
 A7 @kn5 (
 A7 @st5 (
 A7 @sz5 (
 A7 @zr5 (
 A7 @A6m (
 A7 @A6n (
 A7 @A6q (
 A7 @A6o (
 A7 @A6s (
 A7 @A6t (
 A7 @A6w (
 A7 @A6u (
 A7 @A2L (
 A7 @A6x (
 A7 @A2M (
 A7 @A6y (
 A7 @A71 (
 A7 @A72 (
 A7 @A75 (
 A7 @A73 (
 A7 @A76 (
 A7 @A77 (
 A7 @A7A (
 A7 @A78 (
 A7 @A7B (
 A7 @A7C (
 A7 @A7F (
 A7 @A7D (
 A7 @A7H (
 A7 @A7I (
 A7 @A7L (
 A7 @A7J (
 A7 @A7N (
 A7 @A7O (
 A7 @A7R (
 A7 @A7P (
 A7 @A7T (
 A7 @A7U (
 A7 @A7X (
 A7 @A7V (
 A7 @A7Z (
 A7 @A7a (
 A7 @A7d (
 A7 @A7b (
 A7 @A7f (
 A7 @A7g (
 A7 @A7j (
 A7 @A7h (
 A7 @A7l (
 A7 @A7m (
 A7 @A7p (
 A7 @A7n (
 A7 @A7r (
 A7 @A7s (
 A7 @A7v (
 A7 @A7t (
 A7 @A7x (
 A7 @A7y (
 A7 @A81 (
 A7 @A7z (
 A7 @A83 (
 A7 @A84 (
 A7 @A87 (
 A7 @A85 (
 A7 @A89 (
 A7 @A8A (
 A7 @A8D (
 A7 @A8B (
 A7 @vL (
 A7 @vM (
 A7 @vP (
 A7 @vN (
 A7 @vR (
 A7 @vS (
 A7 @vV (
 A7 @vT (
 A7 @vW (
 A7 @vX (
 A7 @vg (
 A7 @vY (
 A7 @vo (
 A7 @vz (
 A7 @wC (
 A7 @w9 (
 A7 @wE (
 A7 @wF (
 A7 @wI (
 A7 @wG (
 A7 @wK (
 A7 @wL (
 A7 @wO (
 A7 @wM (
 A7 @wQ (
 A7 @wR (
 A7 @wU (
 A7 @wS (
 A7 @wW (
 A7 @wX (
 A7 @wh (
 A7 @wY (
 A7 @wo (
 A7 @wu (
 A7 @wz (
 A7 @ww (
 A7 @x9 (
 A7 @xA (
 A7 @xD (
 A7 @xB (
 A7 @xG (
 A7 @xH (
 A7 @xK (
 A7 @xI (
 A7 @xM (
 A7 @xN (
 A7 @xQ (
 A7 @xO (
 A7 @xS (
 A7 @xU (
 A7 @xX (
 A7 @xV (
 A7 @xY (
 A7 @xZ (
 A7 @xf (
 A7 @xc (
 A7 @xk (
 A7 @xm (
 A7 @xu (
 A7 @xn (
 A7 @xx (
 A7 @xy (
 A7 @y7 (
 A7 @xz (
 A7 @y9 (
 A7 @yA (
 A7 @yD (
 A7 @yB (
 A7 @yF (
 A7 @yG (
 A7 @yJ (
 A7 @yH (
 A7 @yM (
 A7 @yN (
 A7 @yQ (
 A7 @yO (
 A7 @A6v (
 A7 @A74 (
 A7 @A7E (
 A7 @A7Q (
 A7 @A7W (
 A7 @A7c (
 A7 @A7o (
 A7 @A80 (
 A7 @wH (
 A7 @wy (
 A7 @xe (
 A7 @xq (
 A7 @o5 (
 A7 @o6 (
 A7 @o7 (
 A7 @o8 (
 A7 @o9 (
 A7 @oD (
 A7 @oG (
 A7 @zo3 (
 A7 @zo4 (
 A7 @zo5 (
 A7 @A6p (
 A7 @A6z (
 A7 @A79 (
 A7 @A7K (
 A7 @A7i (
 A7 @A7u (
 A7 @A86 (
 A7 @A8C (
 A7 @vO (
 A7 @vU (
 A7 @vZ (
 A7 @wB (
 A7 @wN (
 A7 @wT (
 A7 @wZ (
 A7 @xC (
 A7 @xJ (
 A7 @xP (
 A7 @xW (
 A7 @y5 (
 A7 @yC (
 A7 @yI (
 A7 @yP (
 A7 @le3 (
 A7 @le4 (
 A7 @le5 (
 A7 @le6 (
 A7 @le7 (
 A7 @le8 (
 A7 @le9 (
 A7 @A8E (
 A7 @A8F (
 A7 @A8G (
 A7 @A8H (
 A7 @A8I (
 A7 @A8J (
 A7 @A8K (
 A7 @A8L (
 A7 @A8M (
 A7 @A8N (
 A7 @A8O (
 A7 @A8P (
 A7 @A8Q (
 A7 @A8R (
 A7 @A8S (
 A7 @A8T (
 A7 @A8U (
 A7 @A8V (
 A7 @A8W (
 A7 @A8X (
 A7 @A8Y (
 A7 @A8Z (
 A7 @A8a (
 A7 @A8b (
 A7 @A8c (
 A7 @A8d (
 A7 @A8e (
 A7 @A8f (
 A7 @A8g (
 A7 @A8h (
 A7 @A8i (
 A7 @A8j (
 A7 @A8k (
 A7 @A8l (
 A7 @A8m (
 A7 @A8n (
 A7 @A8o (
 A7 @A8p (
 A7 @A8q (
 A7 @A8r (
 A7 @A8s (
 A7 @A8t (
 A7 @A8u (
 A7 @A8v (
 A7 @A8w (
 A7 @A8x (
 A7 @A8y (
 A7 @A8z (
 A7 @A90 (
 A7 @A91 (
 A7 @A92 (
 A7 @A93 (
 A7 @A94 (
 A7 @A95 (
 A7 @A96 (
 A7 @A97 (
 A7 @A98 (
 A7 @A99 (
 A7 @A9A (
 A7 @A9B (
 A7 @A9C (
 A7 @A9D (
 A7 @A9E (
 A7 @A9F (
 A7 @A9G (
 A7 @A9H (
 A7 @A9I (
 A7 @A9J (
 A7 @A9K (
 A7 @A9L (
 A7 @A9M (
 A7 @A9N (
 A7 @A9O (
 A7 @A9P (
 A7 @A9Q (
 A7 @A9R (
 A7 @A9S (
 A7 @A9T (
 A7 @A9U (
 A7 @A9V (
 A7 @A9W (
 A7 @A9X (
 A7 @A9Y (
 A7 @A9Z (
 A7 @A9a (
 A7 @A9b (
 A7 @A9c (
 A7 @A9d (
 A7 @A9e (
 A7 @A9f (
 A7 @yR (
 A7 @yS (
 A7 @yU (
 A7 @yV (
 A7 @yX (
 A7 @yY (
 A7 @yZ (
 A7 @yc (
 A7 @yf (
 A7 @yg (
 A7 @yh (
 A7 @yj (
 A7 @yl (
 A7 @ym (
 A7 @yn (
 A7 @yo (
 A7 @yt (
 A7 @yu (
 A7 @yw (
 A7 @oK (
 A7 @yx (
 A7 @yz (
 A7 @z8 (
 A7 @zA (
 A7 @zC (
 A7 @zD (
 A7 @zF (
 A7 @zG (
 A7 @zH (
 A7 @zI (
 A7 @zJ (
 A7 @zK (
 A7 @zL (
 A7 @zM (
 A7 @zN (
 A7 @zO (
 A7 @zP (
 A7 @zQ (
 A7 @zR (
 A7 @zS (
 A7 @zT (
 A7 @zU (
 A7 @zV (
 A7 @zW (
 A7 @zX (
 A7 @zY (
 A7 @zZ (
 A7 @za (
 A7 @zb (
 A7 @ze (
 A7 @zf (
 A7 @zg (
 A7 @zh (
 A7 @zi (
 A7 @zk (
 A7 @zm (
 A7 @zn (
 A7 @zo (
 A7 @zq (
 A7 @zt (
 A7 @zu (
 A7 @zw (
 A7 @zx (
 A7 @zy (
 A7 @zz (
 A7 @A00 (
 A7 @A01 (
 A7 @A02 (
 A7 @A03 (
 A7 @A04 (
 A7 @oO (
 A7 @A05 (
 A7 @A06 (
 A7 @A07 (
 A7 @A08 (
 A7 @A09 (
 A7 @A0A (
 A7 @A0B (
 A7 @A0C (
 A7 @A0D (
 A7 @A0E (
 A7 @A0F (
 A7 @A0G (
 A7 @A0H (
 A7 @A0I (
 A7 @A0J (
 A7 @A0K (
 A7 @A0L (
 A7 @A0M (
 A7 @A0N (
 A7 @A0O (
 A7 @A0P (
 A7 @A0Q (
 A7 @A0R (
 A7 @A0S (
 A7 @A0T (
 A7 @A0U (
 A7 @A0V (
 A7 @A0W (
 A7 @A0X (
 A7 @A0Y (
 A7 @A0Z (
 A7 @A0a (
 A7 @A0b (
 A7 @A0c (
 A7 @A0d (
 A7 @A0e (
 A7 @A0f (
 A7 @A0g (
 A7 @A0h (
 A7 @A0i (
 A7 @A0j (
 A7 @A0k (
 A7 @A0l (
 A7 @A0m (@A0n)))))))))))))))))))))))))))))))))))))))))))))))))))))))))))))))))))))))))))))))))))))))))))))))))))))))))))))))))))))))))))))))))))))))))))))))))))))))))))))))))))))))))))))))))))))))))))))))))))))))))))))))))))))))))))))))))))))))))))))))))))))))))))))))))))))))))))))))))))))))))))))))))))))))))))))))))))))))))))))))))))))))))))))))))))))))))))))))))))))))))))))))))))))))))))))))))))))))))))))))))))))))))))))))))))))))))))))))))))))))))))))))))))
def oP:SC:= .seq (.ops [oX 2 (.assign (.const (.slice none 0 0))) 26]) (.seq (.seq (.ops [oM 3 0 26,oB 4 .eql 26 (tK 3) (.const (.slice none 0 0)) 26 4]) (.cond (tK 4) (.seq (.ops [oX 2 (.assign (.const (.slice none 0 0))) 26]) .ret) .skip)) (.seq (.ops [oX 5 (.buildSlice 26 0 #[]) 26,oM 6 0 26,oX 7 (.call ⟨(.builtin .append), #[(tK 5),(tK 6)], #[26,26]⟩) 26,oA 2 7 26]) .ret))
theorem gY:Try.f121.body.map (Bc lends)=some oP:=by kernel_rfl
theorem A0o:Bn Try.f121 1=true:=by kernel_rfl
theorem eP(A:Option Addr)(c:Nat):Y0.call 121 [.konst (.slice A 0 c)] []=some (.own 3 [],[]):=by
 refine Aa (Y:=Y0) rfl Try.func121 A0o gY ?_;show Bq Y0.env oP (F9 Ab 0 [ResultVar.tmp 2] _) _
 unfold oP
 cases A<;>simp only [↓AP,nR,A9g,implies_true,Cq,NP,Option.isSome_some,↓reduceIte,Nat.reduceEqDiff,Nat.reduceLT,Nat.reduceLeDiff,Nat.reduceAdd,Nat.reduceMul,Nat.reduceMod,Nat.reduceSub,List.contains_cons,List.contains_nil,Nat.reduceBEq,List.getD_cons_zero,List.getD_cons_succ,List.getD_nil,Lr,Qa,List.size_toArray,List.toList_toArray,List.zip_cons_cons,List.zip_nil_left,TD,PY,QZ,P8,List.map_nil,jC,List.replicate_zero,bL,Yx,List.set_set,Qc,List.any_cons,List.any_nil,List.all_nil,Oc,QY,List.getElem?_nil,List.range_zero,beq_self_eq_true,Int.reduceLE,Int.reduceLT,Int.reduceEq,Int.reduceSub,Int.reduceAdd,Int.reduceToNat,Int.reduceNeg,Option.isNone_none,Option.isNone_some]
theorem sw:Dv.Good Try.prog Ab 121 [.sl 3 []] [] (.own 3 []) []:=dZ kn3 (fun A c=>Dv.Sys.call_good AEZ (eP A c))
def oQ(f:FuncId)(a l:List D):Option (D×List D):=
 match f,a,l with
 |121,[.sl 3 []],[]=>some (.own 3 [],[])
 |_,_,_=>none
theorem tC: ∀f a l r outs,oQ f a l=some (r,outs)→Dv.Good Try.prog Ab f a l r outs:=by
 intro f a l r outs h;unfold oQ at h
 split at h
 ·simp only [Option.some.injEq,Prod.mk.injEq]at h;obtain⟨rfl,rfl⟩:=h;exact sw
 ·cases h
theorem oU: ∀zs:AO,zs.length<4611686018427387904→Dv.Good Try.prog Ab 152 [.vw [100000] 0 0] [.own 3 (IQ zs)] (.tup []) [.own 3 (IQ (Ct zs))]:=fun zs h=>
 kU ⟨Try.f152,Try.func152,rfl,by decide⟩ sz3 (fun blk off cap zs w h1 h2 h3=>Try.slices_Sort_int blk off cap zs w h1 h2 h3) (fun p cap w=>Try.slices_Sort_int_none p cap w) zs h
theorem eQ: ∀zs:AO,zs.length<1099511627776→Dv.Good Try.prog Ab 115 [.clo 155 [.cptr [.sl 3 (IQ zs)]]] [] (.own 3 (IQ (Ct zs))) []:=fun zs h=>
 aJ ⟨Try.f115,Try.func115,rfl,by decide⟩ sz3
  (fun p ad cap w h1 h2=>callsIn_wide.1 (Go.Proofs.sv.sorted_in 5 (IG _) p _ [] (by decide) (by decide) w h1 h2 (.inl ⟨ad,cap,rfl,rfl⟩)))
  (fun p b off cap zs w h0 h1 h2 h3 h4=>callsIn_wide.1 (Go.Proofs.sv.sorted_in 5 (IG _) p _ zs (by have:maxLen=9223372036854775807:=rfl;omega) (by omega) w h1 h2 (.inr ⟨b,off,cap,rfl,h3,h4⟩))) zs h
theorem aL: ∀n:Nat,n<1099511627776→Dv.Good Try.prog Ab 100 [.konst (.slice none 0 0),.int .i64 n] [] (.own 26 []) []:=fun n h=>
 eO (ρ:=Try.laysGrow100_ren) su Try.laysGrow100 ⟨Try.f100,Try.func100,rfl,by decide⟩ A2L A2M n h
noncomputable def Y:Dv.Sys:={P:=Try.prog,T:=Ab,lends:=lends,base:=PM (O6 100 26) (PM (PM oQ (O4 152 3)) (Ky 115 155 3))}
theorem yOk:Dv.Sys.Ok Y:=⟨su,mixed,O5 (Vz aL) (O5 (O5 tC (Vx oU)) (Rx eQ))⟩
theorem oV:Ab.ty 900013= .other:=nr rfl
theorem yT:Y.T=Ab:=nr rfl
theorem yL:Y.lends=lends:=nr rfl
set_option maxRecDepth 10000 in
set_option linter.defProp false in
def A9h:=
 A7 @oV (
 A7 @yT (
 A7 @yL (
 A7 @AEa (
 A7 @AEb (
 A7 @AEc (
 A7 @ty3 (
 A7 @ty4 (
 A7 @ty5 (
 A7 @A6l (
 A7 @A6r (
 A7 @A2K (
 A7 @A70 (
 A7 @A2N (
 A7 @A2O (
 A7 @A7G (
 A7 @A7M (
 A7 @A7S (
 A7 @A7Y (
 A7 @A7e (
 A7 @A7k (
 A7 @A7q (
 A7 @A7w (
 A7 @A82 (
 A7 @A88 (
 A7 @vK (
 A7 @vQ (
 A7 @oH (
 A7 @vk (
 A7 @wD (
 A7 @wJ (
 A7 @wP (
 A7 @wV (
 A7 @wm (
 A7 @x8 (
 A7 @xE (
 A7 @xF (
 A7 @xL (
 A7 @xR (
 A7 @oJ (
 A7 @xg (
 A7 @xh (
 A7 @xw (
 A7 @y8 (
 A7 @yE (
 A7 @yK (
 A7 @kn3 (
 A7 @st3 (
 A7 @sz3 (
 A7 @zr3 (
 A7 @kn4 (
 A7 @st4 (
 A7 @sz4 (
 A7 @zr4 (
 A7 @kn5 (
 A7 @st5 (
 A7 @sz5 (
 A7 @zr5 (
 A7 @A6m (
 A7 @A6n (
 A7 @A6q (
 A7 @A6o (
 A7 @A6s (
 A7 @A6t (
 A7 @A6w (
 A7 @A6u (
 A7 @A2L (
 A7 @A6x (
 A7 @A2M (
 A7 @A6y (
 A7 @A71 (
 A7 @A72 (
 A7 @A75 (
 A7 @A73 (
 A7 @A76 (
 A7 @A77 (
 A7 @A7A (
 A7 @A78 (
 A7 @A7B (
 A7 @A7C (
 A7 @A7F (
 A7 @A7D (
 A7 @A7H (
 A7 @A7I (
 A7 @A7L (
 A7 @A7J (
 A7 @A7N (
 A7 @A7O (
 A7 @A7R (
 A7 @A7P (
 A7 @A7T (
 A7 @A7U (
 A7 @A7X (
 A7 @A7V (
 A7 @A7Z (
 A7 @A7a (
 A7 @A7d (
 A7 @A7b (
 A7 @A7f (
 A7 @A7g (
 A7 @A7j (
 A7 @A7h (
 A7 @A7l (
 A7 @A7m (
 A7 @A7p (
 A7 @A7n (
 A7 @A7r (
 A7 @A7s (
 A7 @A7v (
 A7 @A7t (
 A7 @A7x (
 A7 @A7y (
 A7 @A81 (
 A7 @A7z (
 A7 @A83 (
 A7 @A84 (
 A7 @A87 (
 A7 @A85 (
 A7 @A89 (
 A7 @A8A (
 A7 @A8D (
 A7 @A8B (
 A7 @vL (
 A7 @vM (
 A7 @vP (
 A7 @vN (
 A7 @vR (
 A7 @vS (
 A7 @vV (
 A7 @vT (
 A7 @vW (
 A7 @vX (
 A7 @vg (
 A7 @vY (
 A7 @vo (
 A7 @vz (
 A7 @wC (
 A7 @w9 (
 A7 @wE (
 A7 @wF (
 A7 @wI (
 A7 @wG (
 A7 @wK (
 A7 @wL (
 A7 @wO (
 A7 @wM (
 A7 @wQ (
 A7 @wR (
 A7 @wU (
 A7 @wS (
 A7 @wW (
 A7 @wX (
 A7 @wh (
 A7 @wY (
 A7 @wo (
 A7 @wu (
 A7 @wz (
 A7 @ww (
 A7 @x9 (
 A7 @xA (
 A7 @xD (
 A7 @xB (
 A7 @xG (
 A7 @xH (
 A7 @xK (
 A7 @xI (
 A7 @xM (
 A7 @xN (
 A7 @xQ (
 A7 @xO (
 A7 @xS (
 A7 @xU (
 A7 @xX (
 A7 @xV (
 A7 @xY (
 A7 @xZ (
 A7 @xf (
 A7 @xc (
 A7 @xk (
 A7 @xm (
 A7 @xu (
 A7 @xn (
 A7 @xx (
 A7 @xy (
 A7 @y7 (
 A7 @xz (
 A7 @y9 (
 A7 @yA (
 A7 @yD (
 A7 @yB (
 A7 @yF (
 A7 @yG (
 A7 @yJ (
 A7 @yH (
 A7 @yM (
 A7 @yN (
 A7 @yQ (
 A7 @yO (
 A7 @A6v (
 A7 @A74 (
 A7 @A7E (
 A7 @A7Q (
 A7 @A7W (
 A7 @A7c (
 A7 @A7o (
 A7 @A80 (
 A7 @wH (
 A7 @wy (
 A7 @xe (
 A7 @xq (
 A7 @o5 (
 A7 @o6 (
 A7 @o7 (
 A7 @o8 (
 A7 @o9 (
 A7 @oD (
 A7 @oG (
 A7 @zo3 (
 A7 @zo4 (
 A7 @zo5 (
 A7 @A6p (
 A7 @A6z (
 A7 @A79 (
 A7 @A7K (
 A7 @A7i (
 A7 @A7u (
 A7 @A86 (
 A7 @A8C (
 A7 @vO (
 A7 @vU (
 A7 @vZ (
 A7 @wB (
 A7 @wN (
 A7 @wT (
 A7 @wZ (
 A7 @xC (
 A7 @xJ (
 A7 @xP (
 A7 @xW (
 A7 @y5 (
 A7 @yC (
 A7 @yI (
 A7 @yP (
 A7 @le3 (
 A7 @le4 (
 A7 @le5 (
 A7 @le6 (
 A7 @le7 (
 A7 @le8 (
 A7 @le9 (
 A7 @A8E (
 A7 @A8F (
 A7 @A8G (
 A7 @A8H (
 A7 @A8I (
 A7 @A8J (
 A7 @A8K (
 A7 @A8L (
 A7 @A8M (
 A7 @A8N (
 A7 @A8O (
 A7 @A8P (
 A7 @A8Q (
 A7 @A8R (
 A7 @A8S (
 A7 @A8T (
 A7 @A8U (
 A7 @A8V (
 A7 @A8W (
 A7 @A8X (
 A7 @A8Y (
 A7 @A8Z (
 A7 @A8a (
 A7 @A8b (
 A7 @A8c (
 A7 @A8d (
 A7 @A8e (
 A7 @A8f (
 A7 @A8g (
 A7 @A8h (
 A7 @A8i (
 A7 @A8j (
 A7 @A8k (
 A7 @A8l (
 A7 @A8m (
 A7 @A8n (
 A7 @A8o (
 A7 @A8p (
 A7 @A8q (
 A7 @A8r (
 A7 @A8s (
 A7 @A8t (
 A7 @A8u (
 A7 @A8v (
 A7 @A8w (
 A7 @A8x (
 A7 @A8y (
 A7 @A8z (
 A7 @A90 (
 A7 @A91 (
 A7 @A92 (
 A7 @A93 (
 A7 @A94 (
 A7 @A95 (
 A7 @A96 (
 A7 @A97 (
 A7 @A98 (
 A7 @A99 (
 A7 @A9A (
 A7 @A9B (
 A7 @A9C (
 A7 @A9D (
 A7 @A9E (
 A7 @A9F (
 A7 @A9G (
 A7 @A9H (
 A7 @A9I (
 A7 @A9J (
 A7 @A9K (
 A7 @A9L (
 A7 @A9M (
 A7 @A9N (
 A7 @A9O (
 A7 @A9P (
 A7 @A9Q (
 A7 @A9R (
 A7 @A9S (
 A7 @A9T (
 A7 @A9U (
 A7 @A9V (
 A7 @A9W (
 A7 @A9X (
 A7 @A9Y (
 A7 @A9Z (
 A7 @A9a (
 A7 @A9b (
 A7 @A9c (
 A7 @A9d (
 A7 @A9e (
 A7 @A9f (
 A7 @yR (
 A7 @yS (
 A7 @yU (
 A7 @yV (
 A7 @yX (
 A7 @yY (
 A7 @yZ (
 A7 @yc (
 A7 @yf (
 A7 @yg (
 A7 @yh (
 A7 @yj (
 A7 @yl (
 A7 @ym (
 A7 @yn (
 A7 @yo (
 A7 @yt (
 A7 @yu (
 A7 @yw (
 A7 @oK (
 A7 @yx (
 A7 @yz (
 A7 @z8 (
 A7 @zA (
 A7 @zC (
 A7 @zD (
 A7 @zF (
 A7 @zG (
 A7 @zH (
 A7 @zI (
 A7 @zJ (
 A7 @zK (
 A7 @zL (
 A7 @zM (
 A7 @zN (
 A7 @zO (
 A7 @zP (
 A7 @zQ (
 A7 @zR (
 A7 @zS (
 A7 @zT (
 A7 @zU (
 A7 @zV (
 A7 @zW (
 A7 @zX (
 A7 @zY (
 A7 @zZ (
 A7 @za (
 A7 @zb (
 A7 @ze (
 A7 @zf (
 A7 @zg (
 A7 @zh (
 A7 @zi (
 A7 @zk (
 A7 @zm (
 A7 @zn (
 A7 @zo (
 A7 @zq (
 A7 @zt (
 A7 @zu (
 A7 @zw (
 A7 @zx (
 A7 @zy (
 A7 @zz (
 A7 @A00 (
 A7 @A01 (
 A7 @A02 (
 A7 @A03 (
 A7 @A04 (
 A7 @oO (
 A7 @A05 (
 A7 @A06 (
 A7 @A07 (
 A7 @A08 (
 A7 @A09 (
 A7 @A0A (
 A7 @A0B (
 A7 @A0C (
 A7 @A0D (
 A7 @A0E (
 A7 @A0F (
 A7 @A0G (
 A7 @A0H (
 A7 @A0I (
 A7 @A0J (
 A7 @A0K (
 A7 @A0L (
 A7 @A0M (
 A7 @A0N (
 A7 @A0O (
 A7 @A0P (
 A7 @A0Q (
 A7 @A0R (
 A7 @A0S (
 A7 @A0T (
 A7 @A0U (
 A7 @A0V (
 A7 @A0W (
 A7 @A0X (
 A7 @A0Y (
 A7 @A0Z (
 A7 @A0a (
 A7 @A0b (
 A7 @A0c (
 A7 @A0d (
 A7 @A0e (
 A7 @A0f (
 A7 @A0g (
 A7 @A0h (
 A7 @A0i (
 A7 @A0j (
 A7 @A0k (
 A7 @A0l (
 A7 @A0m (@A0n)))))))))))))))))))))))))))))))))))))))))))))))))))))))))))))))))))))))))))))))))))))))))))))))))))))))))))))))))))))))))))))))))))))))))))))))))))))))))))))))))))))))))))))))))))))))))))))))))))))))))))))))))))))))))))))))))))))))))))))))))))))))))))))))))))))))))))))))))))))))))))))))))))))))))))))))))))))))))))))))))))))))))))))))))))))))))))))))))))))))))))))))))))))))))))))))))))))))))))))))))))))))))))))))))))))))))))))))))))))))))))))))))))))))
theorem A9i(n:Int)(h:0≤n∧n<1099511627776):Y.call 100 [.konst (.slice none 0 0),.int .i64 n] []=some (.own 26 [],[]):=Dv.Sys.call_base (Rk<|aK 100 26 n h)
theorem UM(zs:AO)(h:zs.length<1099511627776):Y.call 115 [.clo 155 [.cptr [.sl 3 (AR (D.int .i64) zs)]]] []=some (.own 3 (AR (D.int .i64) (Ct zs)),[]):=Dv.Sys.call_base ((Vy 115 155 3 zs h))
theorem oW(zs:AO)(h:zs.length<4611686018427387904):Y.call 152 [.vw [100000] 0 0] [.own 3 (AR (D.int .i64) zs)]=some (.tup [],[.own 3 (AR (D.int .i64) (Ct zs))]):=Dv.Sys.call_base (Rk<|(aI 152 3 zs h))
theorem kX(xs:List D)(h:xs.length<1099511627776)(hs:xs.all DN=true)(ho:Al xs=false)(hf:(EA (.own 3 xs)).isSome=true):Y.call 121 [.sl 3 xs] []=some (.own 3 xs,[]):=by
 cases xs with
 |nil=>exact Dv.Sys.call_base rfl
 |cons x xs=>
  refine Aa (Y:=Y) rfl Try.func121 A0o gY ?_;show Bq Y.env oP (F9 Ab 0 [ResultVar.tmp 2] _) _
  unfold oP;have h0:0+(x::xs).length<1099511627776:=by omega
  simp only [Lr,JR]at h0;simp only [Qc,gN]at hs ho;simp only [↓AP,nR,A9h,implies_true,Cq,NP,Option.isSome_some,↓reduceIte,Nat.reduceEqDiff,Nat.reduceLT,Nat.reduceLeDiff,Nat.reduceAdd,Nat.reduceMul,Nat.reduceMod,Nat.reduceSub,List.contains_cons,List.contains_nil,Nat.reduceBEq,List.getD_cons_zero,List.getD_cons_succ,List.getD_nil,Lr,Qa,List.size_toArray,List.toList_toArray,List.zip_cons_cons,List.zip_nil_left,TD,PY,QZ,P8,List.map_nil,jC,List.replicate_zero,bL,Yx,List.set_set,Qc,List.any_cons,List.any_nil,List.all_nil,Oc,QY,List.getElem?_nil,List.range_zero,beq_self_eq_true,Int.reduceLE,Int.reduceLT,Int.reduceEq,Int.reduceSub,Int.reduceAdd,Int.reduceToNat,Int.reduceNeg,JR,h0,hs,ho];simp only [vH,gP]at hf;rw [if_pos hf]
set_option linter.defProp false in
def AQ:=A7 nR (A7 AEX (A7 xc2 (A7 A6k A9h)))
abbrev CF:Op:= .assign (.const (.bool false))
abbrev Eh:Operand:= .const (.bool true)
abbrev Kz:Op:= .assign (.const (.slice none 0 0))
abbrev O7:Op:= .assign (.const (.int .i64 (-1)))
abbrev PO:Operand:= .const (.bool false)
abbrev eT:Op:= .fieldAddr 47 (tK 1) 0
end Go.Proofs.Ytclkfhhdikfcpaa
