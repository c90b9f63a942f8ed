/- The types of this seat as data, and the system of its calls. Conditions: none. -/
import Derived.Test.YtclkfhhdikfcpaaRows
import Derived.Test.YtclkfhhdikfcpaaL6
import Derived.Test.YtclkfhhdikfcpaaSv
import Derived.KernelRfl
namespace Go.Proofs.Ytclkfhhdikfcpaa
open Go Dv
set_option linter.unusedSimpArgs false
set_option maxRecDepth 100000
def mU:List Ty:=[.other,.func,.int .i64,.int .i64,.bool,.int .u8,.int .u8,.struct [2,3,4,6],.struct [2,3,4,6],.string,.string,.string,.int .u64,.struct [9,12],.struct [9,12],.ptr,.ptr,.ptr,.struct [17],.struct [17],.other,.int .i32,.slice 26,.struct [3,3,22,22],.struct [3,3,22,22],.func,.slice 3,.other,.func,.struct [3,3,22,22],.func,.func,.func,.func,.func,.func,.other,.func,.func,.slice 121,.struct [39,26,26],.struct [39,26,26],.func,.other,.func,.slice 123,.struct [45,26,26],.struct [45,26,26],.func,.func,.func,.other,.func,.func,.func,.func,.struct [3,26,3,3],.struct [3,26,3,3],.other,.func,.func,.func,.struct [3,26,3,3],.func,.func,.func,.func,.func,.slice 4,.func,.struct [3,3,22,22,3,3,22,22,68,68],.struct [3,3,22,22,3,3,22,22,68,68],.func,.func,.func,.ptr,.struct [3,3,22,22,3,3,22,22,26],.struct [3,3,22,22,3,3,22,22,26],.func,.func,.func,.func,.func,.func,.func,.func,.func,.func,.func,.func,.func,.func,.func,.func,.func,.func,.func,.other,.func,.func,.other,.func,.func,.func,.func,.func,.func,.func,.func,.func,.int .u64,.func,.func,.func,.func,.slice 22,.other,.func,.func,.func,.func,.slice 159,.func,.slice 125,.struct [3,3],.struct [3,3],.func,.func,.func,.func,.func,.func,.func,.func,.func,.slice 137,.struct [3,3,3,3],.struct [3,3,3,3],.func,.func,.func,.func,.func,.func,.map 3 3,.func,.func,.func,.func,.func,.func,.int .u32,.other,.func,.int .u64,.other,.func,.func,.func,.struct [3,3],.func,.func,.map 164 3,.arr 14 3,.arr 14 3,.func,.func,.func,.func,.func,.func,.func,.func,.func,.func,.func,.func,.func,.func,.func,.int .i64,.other,.func,.func,.func,.func,.func,.int .u64,.func,.func,.func,.ptr,.func,.ptr,.other,.func,.func,.struct [17,17,17,9],.struct [17,17,17,9],.other,.other,.other,.func,.int .u8,.int .u8,.func,.ptr,.int .i32,.int .i32,.struct [12,12,151,203,5,5,204,205,206,207,208],.struct [12,12,151,203,5,5,204,205,206,207,208],.func]
def qV:List (TypeId×List (Nat×TypeId)):=[(70,[(0,29),(4,29),(8,68),(9,68)]),(71,[(0,29),(4,29),(8,68),(9,68)]),(76,[(0,29),(4,29),(8,26)]),(77,[(0,29),(4,29),(8,26)]),(163,[(0,3),(1,3),(2,3),(3,3),(4,3),(5,3),(6,3),(7,3),(8,3),(9,3),(10,3),(11,3),(12,3),(13,3)]),(164,[(0,3),(1,3),(2,3),(3,3),(4,3),(5,3),(6,3),(7,3),(8,3),(9,3),(10,3),(11,3),(12,3),(13,3)])]
def Ac:Tys:=gF mU qV
def lends(f:FuncId):Bool:=[16,17,30,47,49,79,88,120,128,152,213].contains f
theorem ty1:Ac.ty 1= .func:=nr rfl
theorem ty2:Ac.ty 2= .int .i64:=nr rfl
theorem ty3:Ac.ty 3= .int .i64:=nr rfl
theorem kn3:Ac.known 3=true:=nr rfl
theorem st3:Ac.isStruct 3=false:=nr rfl
theorem zr3:Ac.zeros 3=[.int .i64 0]:=nr rfl
theorem zo3:Ac.zero1 3= .int .i64 0:=nr rfl
theorem sz3:Ac.size 3=1:=nr rfl
theorem ty4:Ac.ty 4= .bool:=nr rfl
theorem kn4:Ac.known 4=true:=nr rfl
theorem st4:Ac.isStruct 4=false:=nr rfl
theorem zr4:Ac.zeros 4=[.bool false]:=nr rfl
theorem zo4:Ac.zero1 4= .bool false:=nr rfl
theorem sz4:Ac.size 4=1:=nr rfl
theorem ty5:Ac.ty 5= .int .u8:=nr rfl
theorem kn5:Ac.known 5=true:=nr rfl
theorem st5:Ac.isStruct 5=false:=nr rfl
theorem zr5:Ac.zeros 5=[.int .u8 0]:=nr rfl
theorem zo5:Ac.zero1 5= .int .u8 0:=nr rfl
theorem sz5:Ac.size 5=1:=nr rfl
theorem ty6:Ac.ty 6= .int .u8:=nr rfl
theorem ty7:Ac.ty 7= .struct [2,3,4,6]:=nr rfl
theorem ty8:Ac.ty 8= .struct [2,3,4,6]:=nr rfl
theorem ty9:Ac.ty 9= .string:=nr rfl
theorem AHF:Ac.ty 10= .string:=nr rfl
theorem AHG:Ac.ty 11= .string:=nr rfl
theorem AHH:Ac.ty 12= .int .u64:=nr rfl
theorem AHI:Ac.ty 13= .struct [9,12]:=nr rfl
theorem AHJ:Ac.ty 14= .struct [9,12]:=nr rfl
theorem AHK:Ac.ty 15= .ptr:=nr rfl
theorem AHL:Ac.ty 16= .ptr:=nr rfl
theorem AHM:Ac.ty 17= .ptr:=nr rfl
theorem AHN:Ac.ty 18= .struct [17]:=nr rfl
theorem AHO:Ac.ty 19= .struct [17]:=nr rfl
theorem AHP:Ac.ty 21= .int .i32:=nr rfl
theorem A4b:Ac.ty 22= .slice 26:=nr rfl
theorem A4c:Ac.known 22=true:=nr rfl
theorem A4d:Ac.isStruct 22=false:=nr rfl
theorem A4e:Ac.zeros 22=[.own 26 []]:=nr rfl
theorem A4f:Ac.zero1 22= .own 26 []:=nr rfl
theorem A4g:Ac.size 22=1:=nr rfl
theorem AHQ:Ac.ty 23= .struct [3,3,22,22]:=nr rfl
theorem A4h:Ac.ty 24= .struct [3,3,22,22]:=nr rfl
theorem A4i:Ac.known 24=true:=nr rfl
theorem A4j:Ac.isStruct 24=true:=nr rfl
theorem A4k:Ac.zeros 24=[.int .i64 0,.int .i64 0,.own 26 [],.own 26 []]:=nr rfl
theorem A4l:Ac.nest 24=none:=nr rfl
theorem A4m:Ac.size 24=4:=nr rfl
theorem AHR:Ac.ty 25= .func:=nr rfl
theorem A0I:Ac.ty 26= .slice 3:=nr rfl
theorem A0J:Ac.known 26=true:=nr rfl
theorem A4n:Ac.isStruct 26=false:=nr rfl
theorem A4o:Ac.zeros 26=[.own 3 []]:=nr rfl
theorem A4p:Ac.zero1 26= .own 3 []:=nr rfl
theorem A0K:Ac.size 26=1:=nr rfl
theorem AHS:Ac.ty 28= .func:=nr rfl
theorem A4q:Ac.ty 29= .struct [3,3,22,22]:=nr rfl
theorem A4r:Ac.known 29=true:=nr rfl
theorem A4s:Ac.isStruct 29=true:=nr rfl
theorem A4t:Ac.zeros 29=[.int .i64 0,.int .i64 0,.own 26 [],.own 26 []]:=nr rfl
theorem A4u:Ac.nest 29=none:=nr rfl
theorem A4v:Ac.size 29=4:=nr rfl
theorem AHT:Ac.ty 30= .func:=nr rfl
theorem AHU:Ac.ty 31= .func:=nr rfl
theorem AHV:Ac.ty 32= .func:=nr rfl
theorem AHW:Ac.ty 33= .func:=nr rfl
theorem AHX:Ac.ty 34= .func:=nr rfl
theorem AHY:Ac.ty 35= .func:=nr rfl
theorem AHZ:Ac.ty 37= .func:=nr rfl
theorem AHa:Ac.ty 38= .func:=nr rfl
theorem A0L:Ac.ty 39= .slice 121:=nr rfl
theorem A4w:Ac.known 39=true:=nr rfl
theorem A4x:Ac.isStruct 39=false:=nr rfl
theorem A4y:Ac.zeros 39=[.own 121 []]:=nr rfl
theorem A4z:Ac.zero1 39= .own 121 []:=nr rfl
theorem A50:Ac.size 39=1:=nr rfl
theorem AHb:Ac.ty 40= .struct [39,26,26]:=nr rfl
theorem A0M:Ac.ty 41= .struct [39,26,26]:=nr rfl
theorem A51:Ac.known 41=true:=nr rfl
theorem A52:Ac.isStruct 41=true:=nr rfl
theorem A53:Ac.zeros 41=[.own 121 [],.own 3 [],.own 3 []]:=nr rfl
theorem A54:Ac.nest 41=none:=nr rfl
theorem A55:Ac.size 41=3:=nr rfl
theorem AHc:Ac.ty 42= .func:=nr rfl
theorem AHd:Ac.ty 44= .func:=nr rfl
theorem A56:Ac.ty 45= .slice 123:=nr rfl
theorem A57:Ac.known 45=true:=nr rfl
theorem A58:Ac.isStruct 45=false:=nr rfl
theorem A59:Ac.zeros 45=[.own 123 []]:=nr rfl
theorem A5A:Ac.zero1 45= .own 123 []:=nr rfl
theorem A5B:Ac.size 45=1:=nr rfl
theorem AHe:Ac.ty 46= .struct [45,26,26]:=nr rfl
theorem A5C:Ac.ty 47= .struct [45,26,26]:=nr rfl
theorem A5D:Ac.known 47=true:=nr rfl
theorem A5E:Ac.isStruct 47=true:=nr rfl
theorem A5F:Ac.zeros 47=[.own 123 [],.own 3 [],.own 3 []]:=nr rfl
theorem A5G:Ac.nest 47=none:=nr rfl
theorem A5H:Ac.size 47=3:=nr rfl
theorem AHf:Ac.ty 48= .func:=nr rfl
theorem AHg:Ac.ty 49= .func:=nr rfl
theorem AHh:Ac.ty 50= .func:=nr rfl
theorem AHi:Ac.ty 52= .func:=nr rfl
theorem AHj:Ac.ty 53= .func:=nr rfl
theorem AHk:Ac.ty 54= .func:=nr rfl
theorem AHl:Ac.ty 55= .func:=nr rfl
theorem AHm:Ac.ty 56= .struct [3,26,3,3]:=nr rfl
theorem A5I:Ac.ty 57= .struct [3,26,3,3]:=nr rfl
theorem A5J:Ac.known 57=true:=nr rfl
theorem A5K:Ac.isStruct 57=true:=nr rfl
theorem A5L:Ac.zeros 57=[.int .i64 0,.own 3 [],.int .i64 0,.int .i64 0]:=nr rfl
theorem A5M:Ac.nest 57=none:=nr rfl
theorem A5N:Ac.size 57=4:=nr rfl
theorem AHn:Ac.ty 59= .func:=nr rfl
theorem AHo:Ac.ty 60= .func:=nr rfl
theorem AHp:Ac.ty 61= .func:=nr rfl
theorem A5O:Ac.ty 62= .struct [3,26,3,3]:=nr rfl
theorem A5P:Ac.known 62=true:=nr rfl
theorem A5Q:Ac.isStruct 62=true:=nr rfl
theorem A5R:Ac.zeros 62=[.int .i64 0,.own 3 [],.int .i64 0,.int .i64 0]:=nr rfl
theorem A5S:Ac.nest 62=none:=nr rfl
theorem A5T:Ac.size 62=4:=nr rfl
theorem AHq:Ac.ty 63= .func:=nr rfl
theorem AHr:Ac.ty 64= .func:=nr rfl
theorem AHs:Ac.ty 65= .func:=nr rfl
theorem AHt:Ac.ty 66= .func:=nr rfl
theorem AHu:Ac.ty 67= .func:=nr rfl
theorem A5U:Ac.ty 68= .slice 4:=nr rfl
theorem A5V:Ac.known 68=true:=nr rfl
theorem A5W:Ac.isStruct 68=false:=nr rfl
theorem A5X:Ac.zeros 68=[.own 4 []]:=nr rfl
theorem A5Y:Ac.zero1 68= .own 4 []:=nr rfl
theorem A5Z:Ac.size 68=1:=nr rfl
theorem AHv:Ac.ty 69= .func:=nr rfl
theorem AHw:Ac.ty 70= .struct [3,3,22,22,3,3,22,22,68,68]:=nr rfl
theorem A5a:Ac.ty 71= .struct [3,3,22,22,3,3,22,22,68,68]:=nr rfl
theorem A5b:Ac.known 71=true:=nr rfl
theorem A5c:Ac.isStruct 71=true:=nr rfl
theorem A5d:Ac.zeros 71=[.int .i64 0,.int .i64 0,.own 26 [],.own 26 [],.int .i64 0,.int .i64 0,.own 26 [],.own 26 [],.own 4 [],.own 4 []]:=nr rfl
theorem A5e:Ac.nest 71=some [(0,29),(4,29),(8,68),(9,68)]:=nr rfl
theorem kT:Ac.foff 71 0=some 0:=nr rfl
theorem kU:Ac.foff 71 1=some 4:=nr rfl
theorem kV:Ac.foff 71 2=some 8:=nr rfl
theorem kW:Ac.foff 71 3=some 9:=nr rfl
theorem A5f:Ac.size 71=10:=nr rfl
theorem AHx:Ac.ty 72= .func:=nr rfl
theorem AHy:Ac.ty 73= .func:=nr rfl
theorem AHz:Ac.ty 74= .func:=nr rfl
theorem A5g:Ac.ty 75= .ptr:=nr rfl
theorem A5h:Ac.known 75=true:=nr rfl
theorem A5i:Ac.isStruct 75=false:=nr rfl
theorem A5j:Ac.zeros 75=[.konst (.pointer none)]:=nr rfl
theorem A5k:Ac.zero1 75= .konst (.pointer none):=nr rfl
theorem A5l:Ac.size 75=1:=nr rfl
theorem AI0:Ac.ty 76= .struct [3,3,22,22,3,3,22,22,26]:=nr rfl
theorem A5m:Ac.ty 77= .struct [3,3,22,22,3,3,22,22,26]:=nr rfl
theorem A5n:Ac.known 77=true:=nr rfl
theorem A5o:Ac.isStruct 77=true:=nr rfl
theorem A5p:Ac.zeros 77=[.int .i64 0,.int .i64 0,.own 26 [],.own 26 [],.int .i64 0,.int .i64 0,.own 26 [],.own 26 [],.own 3 []]:=nr rfl
theorem A5q:Ac.nest 77=some [(0,29),(4,29),(8,26)]:=nr rfl
theorem kX:Ac.foff 77 0=some 0:=nr rfl
theorem kY:Ac.foff 77 1=some 4:=nr rfl
theorem kZ:Ac.foff 77 2=some 8:=nr rfl
theorem A5r:Ac.size 77=9:=nr rfl
theorem AI1:Ac.ty 78= .func:=nr rfl
theorem AI2:Ac.ty 79= .func:=nr rfl
theorem AI3:Ac.ty 80= .func:=nr rfl
theorem AI4:Ac.ty 81= .func:=nr rfl
theorem AI5:Ac.ty 82= .func:=nr rfl
theorem AI6:Ac.ty 83= .func:=nr rfl
theorem AI7:Ac.ty 84= .func:=nr rfl
theorem AI8:Ac.ty 85= .func:=nr rfl
theorem AI9:Ac.ty 86= .func:=nr rfl
theorem A5s:Ac.ty 87= .func:=nr rfl
theorem A5t:Ac.known 87=true:=nr rfl
theorem A5u:Ac.isStruct 87=false:=nr rfl
theorem A5v:Ac.zeros 87=[.konst .nilFunc]:=nr rfl
theorem A5w:Ac.zero1 87= .konst .nilFunc:=nr rfl
theorem A5x:Ac.size 87=1:=nr rfl
theorem AIA:Ac.ty 88= .func:=nr rfl
theorem AIB:Ac.ty 89= .func:=nr rfl
theorem AIC:Ac.ty 90= .func:=nr rfl
theorem AID:Ac.ty 91= .func:=nr rfl
theorem AIE:Ac.ty 92= .func:=nr rfl
theorem AIF:Ac.ty 93= .func:=nr rfl
theorem AIG:Ac.ty 94= .func:=nr rfl
theorem AIH:Ac.ty 95= .func:=nr rfl
theorem A5y:Ac.ty 96= .func:=nr rfl
theorem A5z:Ac.known 96=true:=nr rfl
theorem A60:Ac.isStruct 96=false:=nr rfl
theorem A61:Ac.zeros 96=[.konst .nilFunc]:=nr rfl
theorem A62:Ac.zero1 96= .konst .nilFunc:=nr rfl
theorem A63:Ac.size 96=1:=nr rfl
theorem AII:Ac.ty 98= .func:=nr rfl
theorem AIJ:Ac.ty 99= .func:=nr rfl
theorem AEU:Ac.ty 101= .func:=nr rfl
theorem AEV:Ac.ty 102= .func:=nr rfl
theorem AEW:Ac.ty 103= .func:=nr rfl
theorem AEX:Ac.ty 104= .func:=nr rfl
theorem AEY:Ac.ty 105= .func:=nr rfl
theorem AEZ:Ac.ty 106= .func:=nr rfl
theorem AEa:Ac.ty 107= .func:=nr rfl
theorem AEb:Ac.ty 108= .func:=nr rfl
theorem AEc:Ac.ty 109= .func:=nr rfl
theorem qb:Ac.ty 110= .int .u64:=nr rfl
theorem qc:Ac.known 110=true:=nr rfl
theorem qd:Ac.isStruct 110=false:=nr rfl
theorem qf:Ac.zeros 110=[.int .u64 0]:=nr rfl
theorem qg:Ac.zero1 110= .int .u64 0:=nr rfl
theorem qh:Ac.size 110=1:=nr rfl
theorem AEd:Ac.ty 111= .func:=nr rfl
theorem AEe:Ac.ty 112= .func:=nr rfl
theorem AEf:Ac.ty 113= .func:=nr rfl
theorem AEg:Ac.ty 114= .func:=nr rfl
theorem qi:Ac.ty 115= .slice 22:=nr rfl
theorem qj:Ac.known 115=true:=nr rfl
theorem ql:Ac.isStruct 115=false:=nr rfl
theorem qm:Ac.zeros 115=[.own 22 []]:=nr rfl
theorem qo:Ac.zero1 115= .own 22 []:=nr rfl
theorem qp:Ac.size 115=1:=nr rfl
theorem AEh:Ac.ty 117= .func:=nr rfl
theorem AEi:Ac.ty 118= .func:=nr rfl
theorem AEj:Ac.ty 119= .func:=nr rfl
theorem AEk:Ac.ty 120= .func:=nr rfl
theorem kg:Ac.ty 121= .slice 159:=nr rfl
theorem qw:Ac.known 121=true:=nr rfl
theorem qx:Ac.isStruct 121=false:=nr rfl
theorem qy:Ac.zeros 121=[.own 159 []]:=nr rfl
theorem qz:Ac.zero1 121= .own 159 []:=nr rfl
theorem rA:Ac.size 121=1:=nr rfl
theorem AEl:Ac.ty 122= .func:=nr rfl
theorem rC:Ac.ty 123= .slice 125:=nr rfl
theorem rD:Ac.known 123=true:=nr rfl
theorem rE:Ac.isStruct 123=false:=nr rfl
theorem rF:Ac.zeros 123=[.own 125 []]:=nr rfl
theorem rG:Ac.zero1 123= .own 125 []:=nr rfl
theorem rH:Ac.size 123=1:=nr rfl
theorem AEm:Ac.ty 124= .struct [3,3]:=nr rfl
theorem rJ:Ac.ty 125= .struct [3,3]:=nr rfl
theorem rM:Ac.known 125=true:=nr rfl
theorem rO:Ac.isStruct 125=true:=nr rfl
theorem rP:Ac.zeros 125=[.int .i64 0,.int .i64 0]:=nr rfl
theorem rQ:Ac.nest 125=none:=nr rfl
theorem rR:Ac.size 125=2:=nr rfl
theorem AEn:Ac.ty 126= .func:=nr rfl
theorem AEo:Ac.ty 127= .func:=nr rfl
theorem AEp:Ac.ty 128= .func:=nr rfl
theorem AEq:Ac.ty 129= .func:=nr rfl
theorem AEr:Ac.ty 130= .func:=nr rfl
theorem rT:Ac.ty 131= .func:=nr rfl
theorem rU:Ac.known 131=true:=nr rfl
theorem rV:Ac.isStruct 131=false:=nr rfl
theorem rW:Ac.zeros 131=[.konst .nilFunc]:=nr rfl
theorem rX:Ac.zero1 131= .konst .nilFunc:=nr rfl
theorem rY:Ac.size 131=1:=nr rfl
theorem rZ:Ac.ty 132= .func:=nr rfl
theorem rf:Ac.known 132=true:=nr rfl
theorem rq:Ac.isStruct 132=false:=nr rfl
theorem ru:Ac.zeros 132=[.konst .nilFunc]:=nr rfl
theorem ry:Ac.zero1 132= .konst .nilFunc:=nr rfl
theorem rz:Ac.size 132=1:=nr rfl
theorem AEs:Ac.ty 133= .func:=nr rfl
theorem AEt:Ac.ty 134= .func:=nr rfl
theorem sD:Ac.ty 135= .slice 137:=nr rfl
theorem sG:Ac.known 135=true:=nr rfl
theorem sI:Ac.isStruct 135=false:=nr rfl
theorem sJ:Ac.zeros 135=[.own 137 []]:=nr rfl
theorem sK:Ac.zero1 135= .own 137 []:=nr rfl
theorem sM:Ac.size 135=1:=nr rfl
theorem AEu:Ac.ty 136= .struct [3,3,3,3]:=nr rfl
theorem sN:Ac.ty 137= .struct [3,3,3,3]:=nr rfl
theorem sO:Ac.known 137=true:=nr rfl
theorem sP:Ac.isStruct 137=true:=nr rfl
theorem sQ:Ac.zeros 137=[.int .i64 0,.int .i64 0,.int .i64 0,.int .i64 0]:=nr rfl
theorem sU:Ac.nest 137=none:=nr rfl
theorem sV:Ac.size 137=4:=nr rfl
theorem AEv:Ac.ty 138= .func:=nr rfl
theorem sW:Ac.ty 139= .func:=nr rfl
theorem sZ:Ac.known 139=true:=nr rfl
theorem su:Ac.isStruct 139=false:=nr rfl
theorem sw:Ac.zeros 139=[.konst .nilFunc]:=nr rfl
theorem tC:Ac.zero1 139= .konst .nilFunc:=nr rfl
theorem tF:Ac.size 139=1:=nr rfl
theorem AEw:Ac.ty 140= .func:=nr rfl
theorem AEx:Ac.ty 141= .func:=nr rfl
theorem AEy:Ac.ty 142= .func:=nr rfl
theorem AEz:Ac.ty 143= .func:=nr rfl
theorem tH:Ac.ty 144= .map 3 3:=nr rfl
theorem AF0:Ac.ty 145= .func:=nr rfl
theorem AF1:Ac.ty 146= .func:=nr rfl
theorem AF2:Ac.ty 147= .func:=nr rfl
theorem tJ:Ac.ty 148= .func:=nr rfl
theorem tL:Ac.known 148=true:=nr rfl
theorem tN:Ac.isStruct 148=false:=nr rfl
theorem tO:Ac.zeros 148=[.konst .nilFunc]:=nr rfl
theorem tQ:Ac.zero1 148= .konst .nilFunc:=nr rfl
theorem tT:Ac.size 148=1:=nr rfl
theorem AF3:Ac.ty 149= .func:=nr rfl
theorem AF4:Ac.ty 150= .func:=nr rfl
theorem tV:Ac.ty 151= .int .u32:=nr rfl
theorem tX:Ac.known 151=true:=nr rfl
theorem tY:Ac.isStruct 151=false:=nr rfl
theorem tZ:Ac.zeros 151=[.int .u32 0]:=nr rfl
theorem tq:Ac.zero1 151= .int .u32 0:=nr rfl
theorem tu:Ac.size 151=1:=nr rfl
theorem AF5:Ac.ty 153= .func:=nr rfl
theorem u6:Ac.ty 154= .int .u64:=nr rfl
theorem u7:Ac.known 154=true:=nr rfl
theorem uA:Ac.isStruct 154=false:=nr rfl
theorem uB:Ac.zeros 154=[.int .u64 0]:=nr rfl
theorem uC:Ac.zero1 154= .int .u64 0:=nr rfl
theorem uD:Ac.size 154=1:=nr rfl
theorem AF6:Ac.ty 156= .func:=nr rfl
theorem AF7:Ac.ty 157= .func:=nr rfl
theorem AF8:Ac.ty 158= .func:=nr rfl
theorem ko:Ac.ty 159= .struct [3,3]:=nr rfl
theorem uE:Ac.known 159=true:=nr rfl
theorem uF:Ac.isStruct 159=true:=nr rfl
theorem uG:Ac.zeros 159=[.int .i64 0,.int .i64 0]:=nr rfl
theorem uH:Ac.nest 159=none:=nr rfl
theorem uI:Ac.size 159=2:=nr rfl
theorem AF9:Ac.ty 160= .func:=nr rfl
theorem AFA:Ac.ty 161= .func:=nr rfl
theorem uJ:Ac.ty 162= .map 164 3:=nr rfl
theorem AFB:Ac.ty 163= .arr 14 3:=nr rfl
theorem uK:Ac.ty 164= .arr 14 3:=nr rfl
theorem uL:Ac.known 164=true:=nr rfl
theorem uM:Ac.isStruct 164=true:=nr rfl
theorem uN:Ac.zeros 164=[.int .i64 0,.int .i64 0,.int .i64 0,.int .i64 0,.int .i64 0,.int .i64 0,.int .i64 0,.int .i64 0,.int .i64 0,.int .i64 0,.int .i64 0,.int .i64 0,.int .i64 0,.int .i64 0]:=nr rfl
theorem uO:Ac.nest 164=some [(0,3),(1,3),(2,3),(3,3),(4,3),(5,3),(6,3),(7,3),(8,3),(9,3),(10,3),(11,3),(12,3),(13,3)]:=nr rfl
theorem uP:Ac.size 164=14:=nr rfl
theorem AFC:Ac.ty 165= .func:=nr rfl
theorem AFD:Ac.ty 166= .func:=nr rfl
theorem uQ:Ac.ty 167= .func:=nr rfl
theorem uR:Ac.known 167=true:=nr rfl
theorem uS:Ac.isStruct 167=false:=nr rfl
theorem uT:Ac.zeros 167=[.konst .nilFunc]:=nr rfl
theorem uU:Ac.zero1 167= .konst .nilFunc:=nr rfl
theorem uV:Ac.size 167=1:=nr rfl
theorem AFE:Ac.ty 168= .func:=nr rfl
theorem AFF:Ac.ty 169= .func:=nr rfl
theorem AFG:Ac.ty 170= .func:=nr rfl
theorem AFH:Ac.ty 171= .func:=nr rfl
theorem AFI:Ac.ty 172= .func:=nr rfl
theorem AFJ:Ac.ty 173= .func:=nr rfl
theorem AFK:Ac.ty 174= .func:=nr rfl
theorem AFL:Ac.ty 175= .func:=nr rfl
theorem AFM:Ac.ty 176= .func:=nr rfl
theorem AFN:Ac.ty 177= .func:=nr rfl
theorem AFO:Ac.ty 178= .func:=nr rfl
theorem AFP:Ac.ty 179= .func:=nr rfl
theorem uW:Ac.ty 180= .int .i64:=nr rfl
theorem uX:Ac.known 180=true:=nr rfl
theorem uY:Ac.isStruct 180=false:=nr rfl
theorem uZ:Ac.zeros 180=[.int .i64 0]:=nr rfl
theorem uf:Ac.zero1 180= .int .i64 0:=nr rfl
theorem ug:Ac.size 180=1:=nr rfl
theorem AFQ:Ac.ty 182= .func:=nr rfl
theorem AFR:Ac.ty 183= .func:=nr rfl
theorem AFS:Ac.ty 184= .func:=nr rfl
theorem AFT:Ac.ty 185= .func:=nr rfl
theorem AFU:Ac.ty 186= .func:=nr rfl
theorem uh:Ac.ty 187= .int .u64:=nr rfl
theorem uj:Ac.known 187=true:=nr rfl
theorem uk:Ac.isStruct 187=false:=nr rfl
theorem ul:Ac.zeros 187=[.int .u64 0]:=nr rfl
theorem um:Ac.zero1 187= .int .u64 0:=nr rfl
theorem uo:Ac.size 187=1:=nr rfl
theorem AFV:Ac.ty 188= .func:=nr rfl
theorem AFW:Ac.ty 189= .func:=nr rfl
theorem AFX:Ac.ty 190= .func:=nr rfl
theorem uq:Ac.ty 191= .ptr:=nr rfl
theorem ut:Ac.known 191=true:=nr rfl
theorem uu:Ac.isStruct 191=false:=nr rfl
theorem uw:Ac.zeros 191=[.konst (.pointer none)]:=nr rfl
theorem uy:Ac.zero1 191= .konst (.pointer none):=nr rfl
theorem uz:Ac.size 191=1:=nr rfl
theorem AFY:Ac.ty 192= .func:=nr rfl
theorem AFZ:Ac.ty 193= .ptr:=nr rfl
theorem AFa:Ac.ty 195= .func:=nr rfl
theorem AFb:Ac.ty 196= .func:=nr rfl
theorem AFc:Ac.ty 197= .struct [17,17,17,9]:=nr rfl
theorem AFd:Ac.ty 198= .struct [17,17,17,9]:=nr rfl
theorem AFe:Ac.ty 202= .func:=nr rfl
theorem AFf:Ac.ty 203= .int .u8:=nr rfl
theorem AFg:Ac.ty 204= .int .u8:=nr rfl
theorem AFh:Ac.ty 205= .func:=nr rfl
theorem AFi:Ac.ty 206= .ptr:=nr rfl
theorem AFj:Ac.ty 207= .int .i32:=nr rfl
theorem AFk:Ac.ty 208= .int .i32:=nr rfl
theorem AFl:Ac.ty 209= .struct [12,12,151,203,5,5,204,205,206,207,208]:=nr rfl
theorem AFm:Ac.ty 210= .struct [12,12,151,203,5,5,204,205,206,207,208]:=nr rfl
theorem AFn:Ac.ty 211= .func:=nr rfl
theorem le3:lends 3=false:=nr rfl
theorem le4:lends 4=false:=nr rfl
theorem le5:lends 5=false:=nr rfl
theorem le6:lends 6=false:=nr rfl
theorem le7:lends 7=false:=nr rfl
theorem le8:lends 8=false:=nr rfl
theorem le9:lends 9=false:=nr rfl
theorem A64:lends 10=false:=nr rfl
theorem A65:lends 11=false:=nr rfl
theorem A66:lends 12=false:=nr rfl
theorem A67:lends 13=false:=nr rfl
theorem A68:lends 14=false:=nr rfl
theorem A69:lends 15=false:=nr rfl
theorem A6A:lends 16=true:=nr rfl
theorem A6B:lends 17=true:=nr rfl
theorem A6C:lends 18=false:=nr rfl
theorem A6D:lends 19=false:=nr rfl
theorem A6E:lends 20=false:=nr rfl
theorem A6F:lends 21=false:=nr rfl
theorem A6G:lends 22=false:=nr rfl
theorem A6H:lends 23=false:=nr rfl
theorem A6I:lends 24=false:=nr rfl
theorem A6J:lends 25=false:=nr rfl
theorem A6K:lends 26=false:=nr rfl
theorem A6L:lends 27=false:=nr rfl
theorem A6M:lends 28=false:=nr rfl
theorem A6N:lends 29=false:=nr rfl
theorem A6O:lends 30=true:=nr rfl
theorem A6P:lends 31=false:=nr rfl
theorem A6Q:lends 32=false:=nr rfl
theorem A6R:lends 33=false:=nr rfl
theorem A6S:lends 34=false:=nr rfl
theorem A6T:lends 35=false:=nr rfl
theorem A6U:lends 36=false:=nr rfl
theorem A6V:lends 37=false:=nr rfl
theorem A6W:lends 38=false:=nr rfl
theorem A6X:lends 39=false:=nr rfl
theorem A6Y:lends 40=false:=nr rfl
theorem A6Z:lends 41=false:=nr rfl
theorem A6a:lends 42=false:=nr rfl
theorem A6b:lends 43=false:=nr rfl
theorem A6c:lends 44=false:=nr rfl
theorem A6d:lends 45=false:=nr rfl
theorem A6e:lends 46=false:=nr rfl
theorem A6f:lends 47=true:=nr rfl
theorem A6g:lends 48=false:=nr rfl
theorem A6h:lends 49=true:=nr rfl
theorem A6i:lends 50=false:=nr rfl
theorem A6j:lends 51=false:=nr rfl
theorem A6k:lends 52=false:=nr rfl
theorem A6l:lends 53=false:=nr rfl
theorem A6m:lends 54=false:=nr rfl
theorem A6n:lends 55=false:=nr rfl
theorem A6o:lends 56=false:=nr rfl
theorem A6p:lends 57=false:=nr rfl
theorem A6q:lends 58=false:=nr rfl
theorem A6r:lends 59=false:=nr rfl
theorem A6s:lends 60=false:=nr rfl
theorem A6t:lends 61=false:=nr rfl
theorem A6u:lends 62=false:=nr rfl
theorem A6v:lends 63=false:=nr rfl
theorem A6w:lends 64=false:=nr rfl
theorem A6x:lends 65=false:=nr rfl
theorem A6y:lends 66=false:=nr rfl
theorem A6z:lends 67=false:=nr rfl
theorem A70:lends 68=false:=nr rfl
theorem A71:lends 69=false:=nr rfl
theorem A72:lends 70=false:=nr rfl
theorem A73:lends 71=false:=nr rfl
theorem A74:lends 72=false:=nr rfl
theorem A75:lends 73=false:=nr rfl
theorem A76:lends 74=false:=nr rfl
theorem A77:lends 75=false:=nr rfl
theorem A78:lends 76=false:=nr rfl
theorem A79:lends 77=false:=nr rfl
theorem A7A:lends 78=false:=nr rfl
theorem A7B:lends 79=true:=nr rfl
theorem A7C:lends 80=false:=nr rfl
theorem A7D:lends 81=false:=nr rfl
theorem A7E:lends 82=false:=nr rfl
theorem A7F:lends 83=false:=nr rfl
theorem A7G:lends 84=false:=nr rfl
theorem A7H:lends 85=false:=nr rfl
theorem A7I:lends 86=false:=nr rfl
theorem A7J:lends 87=false:=nr rfl
theorem A7K:lends 88=true:=nr rfl
theorem A7L:lends 89=false:=nr rfl
theorem A7M:lends 90=false:=nr rfl
theorem A7N:lends 91=false:=nr rfl
theorem A7O:lends 92=false:=nr rfl
theorem A7P:lends 93=false:=nr rfl
theorem A7Q:lends 94=false:=nr rfl
theorem A7R:lends 95=false:=nr rfl
theorem A7S:lends 96=false:=nr rfl
theorem A7T:lends 97=false:=nr rfl
theorem A7U:lends 98=false:=nr rfl
theorem A7V:lends 99=false:=nr rfl
theorem vB:lends 100=false:=nr rfl
theorem vC:lends 101=false:=nr rfl
theorem vD:lends 102=false:=nr rfl
theorem vE:lends 103=false:=nr rfl
theorem vF:lends 104=false:=nr rfl
theorem vG:lends 105=false:=nr rfl
theorem vH:lends 106=false:=nr rfl
theorem vI:lends 107=false:=nr rfl
theorem vJ:lends 108=false:=nr rfl
theorem vK:lends 109=false:=nr rfl
theorem vL:lends 110=false:=nr rfl
theorem vM:lends 111=false:=nr rfl
theorem vN:lends 112=false:=nr rfl
theorem vO:lends 113=false:=nr rfl
theorem vP:lends 114=false:=nr rfl
theorem vQ:lends 115=false:=nr rfl
theorem vR:lends 116=false:=nr rfl
theorem vS:lends 117=false:=nr rfl
theorem vT:lends 118=false:=nr rfl
theorem kr:lends 119=false:=nr rfl
theorem vU:lends 120=true:=nr rfl
theorem vV:lends 121=false:=nr rfl
theorem vW:lends 122=false:=nr rfl
theorem vX:lends 123=false:=nr rfl
theorem vY:lends 124=false:=nr rfl
theorem vZ:lends 125=false:=nr rfl
theorem vg:lends 126=false:=nr rfl
theorem vk:lends 127=false:=nr rfl
theorem vo:lends 128=true:=nr rfl
theorem vz:lends 129=false:=nr rfl
theorem w9:lends 130=false:=nr rfl
theorem wB:lends 131=false:=nr rfl
theorem wC:lends 132=false:=nr rfl
theorem wD:lends 133=false:=nr rfl
theorem wE:lends 134=false:=nr rfl
theorem wF:lends 135=false:=nr rfl
theorem wG:lends 136=false:=nr rfl
theorem wH:lends 137=false:=nr rfl
theorem wI:lends 138=false:=nr rfl
theorem wJ:lends 139=false:=nr rfl
theorem wK:lends 140=false:=nr rfl
theorem wL:lends 141=false:=nr rfl
theorem wM:lends 142=false:=nr rfl
theorem wN:lends 143=false:=nr rfl
theorem wO:lends 144=false:=nr rfl
theorem wP:lends 145=false:=nr rfl
theorem wQ:lends 146=false:=nr rfl
theorem wR:lends 147=false:=nr rfl
theorem wS:lends 148=false:=nr rfl
theorem wT:lends 149=false:=nr rfl
theorem wU:lends 150=false:=nr rfl
theorem wV:lends 151=false:=nr rfl
theorem wW:lends 152=true:=nr rfl
theorem wX:lends 153=false:=nr rfl
theorem wY:lends 154=false:=nr rfl
theorem wZ:lends 155=false:=nr rfl
theorem wh:lends 156=false:=nr rfl
theorem wm:lends 157=false:=nr rfl
theorem wo:lends 158=false:=nr rfl
theorem wu:lends 159=false:=nr rfl
theorem ww:lends 160=false:=nr rfl
theorem wy:lends 161=false:=nr rfl
theorem wz:lends 162=false:=nr rfl
theorem x8:lends 163=false:=nr rfl
theorem x9:lends 164=false:=nr rfl
theorem xA:lends 165=false:=nr rfl
theorem xB:lends 166=false:=nr rfl
theorem xC:lends 167=false:=nr rfl
theorem xD:lends 168=false:=nr rfl
theorem xE:lends 169=false:=nr rfl
theorem ku:lends 170=false:=nr rfl
theorem xF:lends 171=false:=nr rfl
theorem xG:lends 172=false:=nr rfl
theorem xH:lends 173=false:=nr rfl
theorem xI:lends 174=false:=nr rfl
theorem xJ:lends 175=false:=nr rfl
theorem xK:lends 176=false:=nr rfl
theorem xL:lends 177=false:=nr rfl
theorem xM:lends 178=false:=nr rfl
theorem xN:lends 179=false:=nr rfl
theorem xO:lends 180=false:=nr rfl
theorem xP:lends 181=false:=nr rfl
theorem xQ:lends 182=false:=nr rfl
theorem xR:lends 183=false:=nr rfl
theorem xS:lends 184=false:=nr rfl
theorem xU:lends 185=false:=nr rfl
theorem xV:lends 186=false:=nr rfl
theorem xW:lends 187=false:=nr rfl
theorem xX:lends 188=false:=nr rfl
theorem xY:lends 189=false:=nr rfl
theorem xZ:lends 190=false:=nr rfl
theorem xc:lends 191=false:=nr rfl
theorem xe:lends 192=false:=nr rfl
theorem xf:lends 193=false:=nr rfl
theorem xg:lends 194=false:=nr rfl
theorem xh:lends 195=false:=nr rfl
theorem xk:lends 196=false:=nr rfl
theorem xm:lends 197=false:=nr rfl
theorem xn:lends 198=false:=nr rfl
theorem xq:lends 199=false:=nr rfl
theorem xu:lends 200=false:=nr rfl
theorem xw:lends 201=false:=nr rfl
theorem xx:lends 202=false:=nr rfl
theorem xy:lends 203=false:=nr rfl
theorem xz:lends 204=false:=nr rfl
theorem y5:lends 205=false:=nr rfl
theorem y7:lends 206=false:=nr rfl
theorem y8:lends 207=false:=nr rfl
theorem y9:lends 208=false:=nr rfl
theorem yA:lends 209=false:=nr rfl
theorem yB:lends 210=false:=nr rfl
theorem yC:lends 211=false:=nr rfl
theorem yD:lends 212=false:=nr rfl
theorem yE:lends 213=true:=nr rfl
theorem yF:lends 214=false:=nr rfl
theorem yG:lends 215=false:=nr rfl
set_option maxRecDepth 100000 in
theorem oK:Ba Try.prog Ac:=zJ (by kernel_rfl)
theorem mixed:Try.prog.follows .mixedOrders=true:=by kernel_rfl
noncomputable def Y0:Dv.Sys:={P:=Try.prog,T:=Ac,lends:=lends,base:=fun _ _ _=>none}
theorem ACJ:Dv.Sys.Ok Y0:=⟨oK,mixed,fun _ _ _ _ _ h=>by cases h⟩
theorem ACK(T:Tys)(s:St)(t:TypeId):ev T s t (.const .nilFunc)=some (.konst .nilFunc):=nr rfl
theorem ACM(T:Tys)(s:St)(t:TypeId):ev T s t (.const .nilIface)=some (.konst .nilIface):=nr rfl
theorem ACN(T:Tys)(s:St)(t:TypeId):ev T s t (.const (.pointer none))=some (.konst (.pointer none)):=nr rfl
theorem y0T:Y0.T=Ac:=nr rfl
theorem y0L:Y0.lends=lends:=nr rfl
set_option maxRecDepth 10000 in
set_option linter.defProp false in
def A7W:=
 A7 @y0T (
 A7 @y0L (
 A7 @ty3 (
 A7 @ty4 (
 A7 @ty5 (
 A7 @A4b (
 A7 @A4h (
 A7 @A0I (
 A7 @A4q (
 A7 @A0L (
 A7 @A0M (
 A7 @A56 (
 A7 @A5C (
 A7 @A5I (
 A7 @A5O (
 A7 @A5U (
 A7 @A5a (
 A7 @A5g (
 A7 @A5m (
 A7 @A5s (
 A7 @A5y (
 A7 @qb (
 A7 @qi (
 A7 @kg (
 A7 @rC (
 A7 @rJ (
 A7 @rT (
 A7 @rZ (
 A7 @sD (
 A7 @sN (
 A7 @sW (
 A7 @tH (
 A7 @tJ (
 A7 @tV (
 A7 @u6 (
 A7 @ko (
 A7 @uJ (
 A7 @uK (
 A7 @uQ (
 A7 @uW (
 A7 @uh (
 A7 @uq (
 A7 @kn3 (
 A7 @st3 (
 A7 @sz3 (
 A7 @zr3 (
 A7 @kn4 (
 A7 @st4 (
 A7 @sz4 (
 A7 @zr4 (
 A7 @kn5 (
 A7 @st5 (
 A7 @sz5 (
 A7 @zr5 (
 A7 @A4c (
 A7 @A4d (
 A7 @A4g (
 A7 @A4e (
 A7 @A4i (
 A7 @A4j (
 A7 @A4m (
 A7 @A4k (
 A7 @A0J (
 A7 @A4n (
 A7 @A0K (
 A7 @A4o (
 A7 @A4r (
 A7 @A4s (
 A7 @A4v (
 A7 @A4t (
 A7 @A4w (
 A7 @A4x (
 A7 @A50 (
 A7 @A4y (
 A7 @A51 (
 A7 @A52 (
 A7 @A55 (
 A7 @A53 (
 A7 @A57 (
 A7 @A58 (
 A7 @A5B (
 A7 @A59 (
 A7 @A5D (
 A7 @A5E (
 A7 @A5H (
 A7 @A5F (
 A7 @A5J (
 A7 @A5K (
 A7 @A5N (
 A7 @A5L (
 A7 @A5P (
 A7 @A5Q (
 A7 @A5T (
 A7 @A5R (
 A7 @A5V (
 A7 @A5W (
 A7 @A5Z (
 A7 @A5X (
 A7 @A5b (
 A7 @A5c (
 A7 @A5f (
 A7 @A5d (
 A7 @A5h (
 A7 @A5i (
 A7 @A5l (
 A7 @A5j (
 A7 @A5n (
 A7 @A5o (
 A7 @A5r (
 A7 @A5p (
 A7 @A5t (
 A7 @A5u (
 A7 @A5x (
 A7 @A5v (
 A7 @A5z (
 A7 @A60 (
 A7 @A63 (
 A7 @A61 (
 A7 @qc (
 A7 @qd (
 A7 @qh (
 A7 @qf (
 A7 @qj (
 A7 @ql (
 A7 @qp (
 A7 @qm (
 A7 @qw (
 A7 @qx (
 A7 @rA (
 A7 @qy (
 A7 @rD (
 A7 @rE (
 A7 @rH (
 A7 @rF (
 A7 @rM (
 A7 @rO (
 A7 @rR (
 A7 @rP (
 A7 @rU (
 A7 @rV (
 A7 @rY (
 A7 @rW (
 A7 @rf (
 A7 @rq (
 A7 @rz (
 A7 @ru (
 A7 @sG (
 A7 @sI (
 A7 @sM (
 A7 @sJ (
 A7 @sO (
 A7 @sP (
 A7 @sV (
 A7 @sQ (
 A7 @sZ (
 A7 @su (
 A7 @tF (
 A7 @sw (
 A7 @tL (
 A7 @tN (
 A7 @tT (
 A7 @tO (
 A7 @tX (
 A7 @tY (
 A7 @tu (
 A7 @tZ (
 A7 @u7 (
 A7 @uA (
 A7 @uD (
 A7 @uB (
 A7 @uE (
 A7 @uF (
 A7 @uI (
 A7 @uG (
 A7 @uL (
 A7 @uM (
 A7 @uP (
 A7 @uN (
 A7 @uR (
 A7 @uS (
 A7 @uV (
 A7 @uT (
 A7 @uX (
 A7 @uY (
 A7 @ug (
 A7 @uZ (
 A7 @uj (
 A7 @uk (
 A7 @uo (
 A7 @ul (
 A7 @ut (
 A7 @uu (
 A7 @uz (
 A7 @uw (
 A7 @A4l (
 A7 @A4u (
 A7 @A54 (
 A7 @A5G (
 A7 @A5M (
 A7 @A5S (
 A7 @A5e (
 A7 @A5q (
 A7 @rQ (
 A7 @sU (
 A7 @uH (
 A7 @uO (
 A7 @kT (
 A7 @kU (
 A7 @kV (
 A7 @kW (
 A7 @kX (
 A7 @kY (
 A7 @kZ (
 A7 @zo3 (
 A7 @zo4 (
 A7 @zo5 (
 A7 @A4f (
 A7 @A4p (
 A7 @A4z (
 A7 @A5A (
 A7 @A5Y (
 A7 @A5k (
 A7 @A5w (
 A7 @A62 (
 A7 @qg (
 A7 @qo (
 A7 @qz (
 A7 @rG (
 A7 @rX (
 A7 @ry (
 A7 @sK (
 A7 @tC (
 A7 @tQ (
 A7 @tq (
 A7 @uC (
 A7 @uU (
 A7 @uf (
 A7 @um (
 A7 @uy (
 A7 @le3 (
 A7 @le4 (
 A7 @le5 (
 A7 @le6 (
 A7 @le7 (
 A7 @le8 (
 A7 @le9 (
 A7 @A64 (
 A7 @A65 (
 A7 @A66 (
 A7 @A67 (
 A7 @A68 (
 A7 @A69 (
 A7 @A6A (
 A7 @A6B (
 A7 @A6C (
 A7 @A6D (
 A7 @A6E (
 A7 @A6F (
 A7 @A6G (
 A7 @A6H (
 A7 @A6I (
 A7 @A6J (
 A7 @A6K (
 A7 @A6L (
 A7 @A6M (
 A7 @A6N (
 A7 @A6O (
 A7 @A6P (
 A7 @A6Q (
 A7 @A6R (
 A7 @A6S (
 A7 @A6T (
 A7 @A6U (
 A7 @A6V (
 A7 @A6W (
 A7 @A6X (
 A7 @A6Y (
 A7 @A6Z (
 A7 @A6a (
 A7 @A6b (
 A7 @A6c (
 A7 @A6d (
 A7 @A6e (
 A7 @A6f (
 A7 @A6g (
 A7 @A6h (
 A7 @A6i (
 A7 @A6j (
 A7 @A6k (
 A7 @A6l (
 A7 @A6m (
 A7 @A6n (
 A7 @A6o (
 A7 @A6p (
 A7 @A6q (
 A7 @A6r (
 A7 @A6s (
 A7 @A6t (
 A7 @A6u (
 A7 @A6v (
 A7 @A6w (
 A7 @A6x (
 A7 @A6y (
 A7 @A6z (
 A7 @A70 (
 A7 @A71 (
 A7 @A72 (
 A7 @A73 (
 A7 @A74 (
 A7 @A75 (
 A7 @A76 (
 A7 @A77 (
 A7 @A78 (
 A7 @A79 (
 A7 @A7A (
 A7 @A7B (
 A7 @A7C (
 A7 @A7D (
 A7 @A7E (
 A7 @A7F (
 A7 @A7G (
 A7 @A7H (
 A7 @A7I (
 A7 @A7J (
 A7 @A7K (
 A7 @A7L (
 A7 @A7M (
 A7 @A7N (
 A7 @A7O (
 A7 @A7P (
 A7 @A7Q (
 A7 @A7R (
 A7 @A7S (
 A7 @A7T (
 A7 @A7U (
 A7 @A7V (
 A7 @vB (
 A7 @vC (
 A7 @vD (
 A7 @vE (
 A7 @vF (
 A7 @vG (
 A7 @vH (
 A7 @vI (
 A7 @vJ (
 A7 @vK (
 A7 @vL (
 A7 @vM (
 A7 @vN (
 A7 @vO (
 A7 @vP (
 A7 @vQ (
 A7 @vR (
 A7 @vS (
 A7 @vT (
 A7 @kr (
 A7 @vU (
 A7 @vV (
 A7 @vW (
 A7 @vX (
 A7 @vY (
 A7 @vZ (
 A7 @vg (
 A7 @vk (
 A7 @vo (
 A7 @vz (
 A7 @w9 (
 A7 @wB (
 A7 @wC (
 A7 @wD (
 A7 @wE (
 A7 @wF (
 A7 @wG (
 A7 @wH (
 A7 @wI (
 A7 @wJ (
 A7 @wK (
 A7 @wL (
 A7 @wM (
 A7 @wN (
 A7 @wO (
 A7 @wP (
 A7 @wQ (
 A7 @wR (
 A7 @wS (
 A7 @wT (
 A7 @wU (
 A7 @wV (
 A7 @wW (
 A7 @wX (
 A7 @wY (
 A7 @wZ (
 A7 @wh (
 A7 @wm (
 A7 @wo (
 A7 @wu (
 A7 @ww (
 A7 @wy (
 A7 @wz (
 A7 @x8 (
 A7 @x9 (
 A7 @xA (
 A7 @xB (
 A7 @xC (
 A7 @xD (
 A7 @xE (
 A7 @ku (
 A7 @xF (
 A7 @xG (
 A7 @xH (
 A7 @xI (
 A7 @xJ (
 A7 @xK (
 A7 @xL (
 A7 @xM (
 A7 @xN (
 A7 @xO (
 A7 @xP (
 A7 @xQ (
 A7 @xR (
 A7 @xS (
 A7 @xU (
 A7 @xV (
 A7 @xW (
 A7 @xX (
 A7 @xY (
 A7 @xZ (
 A7 @xc (
 A7 @xe (
 A7 @xf (
 A7 @xg (
 A7 @xh (
 A7 @xk (
 A7 @xm (
 A7 @xn (
 A7 @xq (
 A7 @xu (
 A7 @xw (
 A7 @xx (
 A7 @xy (
 A7 @xz (
 A7 @y5 (
 A7 @y7 (
 A7 @y8 (
 A7 @y9 (
 A7 @yA (
 A7 @yB (
 A7 @yC (
 A7 @yD (
 A7 @yE (
 A7 @yF (@yG)))))))))))))))))))))))))))))))))))))))))))))))))))))))))))))))))))))))))))))))))))))))))))))))))))))))))))))))))))))))))))))))))))))))))))))))))))))))))))))))))))))))))))))))))))))))))))))))))))))))))))))))))))))))))))))))))))))))))))))))))))))))))))))))))))))))))))))))))))))))))))))))))))))))))))))))))))))))))))))))))))))))))))))))))))))))))))))))))))))))))))))))))))))))))))))))))))))))))))))))))))))))))))))))))))))))))))))))))))))))))))))))))))
def kv:SC:= .seq (.ops [oX 2 (.assign (.const (.slice none 0 0))) 26]) (.seq (.seq (.ops [oM 3 0 26,oB 4 .eql 26 (tK 3) (.const (.slice none 0 0)) 26 4]) (.cond (tK 4) (.seq (.ops [oX 2 (.assign (.const (.slice none 0 0))) 26]) .ret) .skip)) (.seq (.ops [oX 5 (.buildSlice 26 0 #[]) 26,oM 6 0 26,oX 7 (.call ⟨(.builtin .append), #[(tK 5),(tK 6)], #[26,26]⟩) 26,oA 2 7 26]) .ret))
theorem bv:Try.f121.body.map (Bi lends)=some kv:=by kernel_rfl
theorem yH:CL Try.f121 1=true:=by kernel_rfl
theorem aV(A:Option Addr)(c:Nat):Y0.call 121 [.konst (.slice A 0 c)] []=some (.own 3 [],[]):=by
 refine Ab (Y:=Y0) rfl Try.func121 yH bv ?_;show CK Y0.env kv (Fx Ac 0 [ResultVar.tmp 2] _) _
 unfold kv
 cases A<;>simp only [↓AP,kD,A7W,implies_true,DT,MI,Option.isSome_some,↓reduceIte,Nat.reduceEqDiff,Nat.reduceLT,Nat.reduceLeDiff,Nat.reduceAdd,Nat.reduceMul,Nat.reduceMod,Nat.reduceSub,List.contains_cons,List.contains_nil,Nat.reduceBEq,List.getD_cons_zero,List.getD_cons_succ,List.getD_nil,NU,RN,List.size_toArray,List.toList_toArray,List.zip_cons_cons,List.zip_nil_left,UD,UE,PR,OG,List.map_nil,dX,List.replicate_zero,List.set_cons_zero,XQ,List.set_set,PT,List.any_cons,List.any_nil,List.all_nil,NT,PQ,List.getElem?_nil,List.range_zero,beq_self_eq_true,Int.reduceLE,Int.reduceLT,Int.reduceEq,Int.reduceSub,Int.reduceAdd,Int.reduceToNat,Int.reduceNeg,Option.isNone_none,Option.isNone_some]
theorem oO:Dv.Good Try.prog Ac 121 [.sl 3 []] [] (.own 3 []) []:=aI kn3 (fun A c=>Dv.Sys.call_good ACJ (aV A c))
def kw(f:FuncId)(a l:List D):Option (D×List D):=
 match f,a,l with
 |121,[.sl 3 []],[]=>some (.own 3 [],[])
 |_,_,_=>none
theorem oP: ∀f a l r outs,kw f a l=some (r,outs)→Dv.Good Try.prog Ac f a l r outs:=by
 intro f a l r outs h;unfold kw at h
 split at h
 ·simp only [Option.some.injEq,Prod.mk.injEq]at h;obtain⟨rfl,rfl⟩:=h;exact oO
 ·cases h
theorem ky: ∀zs:AL,zs.length<4611686018427387904→Dv.Good Try.prog Ac 152 [.vw [100000] 0 0] [.own 3 (Hd zs)] (.tup []) [.own 3 (Hd (Ck zs))]:=fun zs h=>
 gU ⟨Try.f152,Try.func152,rfl,by decide⟩ sz3 (fun blk off cap zs w h1 h2 h3=>Try.slices_Sort_int blk off cap zs w h1 h2 h3) (fun p cap w=>Try.slices_Sort_int_none p cap w) zs h
theorem aW: ∀zs:AL,zs.length<1099511627776→Dv.Good Try.prog Ac 115 [.clo 155 [.cptr [.sl 3 (Hd zs)]]] [] (.own 3 (Hd (Ck zs))) []:=fun zs h=>
 YY ⟨Try.f115,Try.func115,rfl,by decide⟩ sz3
  (fun p ad cap w h1 h2=>callsIn_wide.1 (Go.Proofs.sv.sorted_in 5 (Hq _) p _ [] (by decide) (by decide) w h1 h2 (.inl ⟨ad,cap,rfl,rfl⟩)))
  (fun p b off cap zs w h0 h1 h2 h3 h4=>callsIn_wide.1 (Go.Proofs.sv.sorted_in 5 (Hq _) p _ zs (by have:maxLen=9223372036854775807:=rfl;omega) (by omega) w h1 h2 (.inr ⟨b,off,cap,rfl,h3,h4⟩))) zs h
theorem Ya: ∀n:Nat,n<1099511627776→Dv.Good Try.prog Ac 100 [.konst (.slice none 0 0),.int .i64 n] [] (.own 26 []) []:=fun n h=>
 aU (ρ:=Try.laysGrow100_ren) oK Try.laysGrow100 ⟨Try.f100,Try.func100,rfl,by decide⟩ A0J A0K n h
noncomputable def Y:Dv.Sys:={P:=Try.prog,T:=Ac,lends:=lends,base:=O0 (Mv 100 26) (O0 (O0 kw (Ms 152 3)) (KA 115 155 3))}
theorem yOk:Dv.Sys.Ok Y:=⟨oK,mixed,Mt (UZ Ya) (Mt (Mt oP (UX ky)) (Qg aW))⟩
theorem kz:Ac.ty 900013= .other:=nr rfl
theorem yT:Y.T=Ac:=nr rfl
theorem yL:Y.lends=lends:=nr rfl
set_option maxRecDepth 10000 in
set_option linter.defProp false in
def A7X:=
 A7 @kz (
 A7 @yT (
 A7 @yL (
 A7 @ACK (
 A7 @ACM (
 A7 @ACN (
 A7 @ty3 (
 A7 @ty4 (
 A7 @ty5 (
 A7 @A4b (
 A7 @A4h (
 A7 @A0I (
 A7 @A4q (
 A7 @A0L (
 A7 @A0M (
 A7 @A56 (
 A7 @A5C (
 A7 @A5I (
 A7 @A5O (
 A7 @A5U (
 A7 @A5a (
 A7 @A5g (
 A7 @A5m (
 A7 @A5s (
 A7 @A5y (
 A7 @qb (
 A7 @qi (
 A7 @kg (
 A7 @rC (
 A7 @rJ (
 A7 @rT (
 A7 @rZ (
 A7 @sD (
 A7 @sN (
 A7 @sW (
 A7 @tH (
 A7 @tJ (
 A7 @tV (
 A7 @u6 (
 A7 @ko (
 A7 @uJ (
 A7 @uK (
 A7 @uQ (
 A7 @uW (
 A7 @uh (
 A7 @uq (
 A7 @kn3 (
 A7 @st3 (
 A7 @sz3 (
 A7 @zr3 (
 A7 @kn4 (
 A7 @st4 (
 A7 @sz4 (
 A7 @zr4 (
 A7 @kn5 (
 A7 @st5 (
 A7 @sz5 (
 A7 @zr5 (
 A7 @A4c (
 A7 @A4d (
 A7 @A4g (
 A7 @A4e (
 A7 @A4i (
 A7 @A4j (
 A7 @A4m (
 A7 @A4k (
 A7 @A0J (
 A7 @A4n (
 A7 @A0K (
 A7 @A4o (
 A7 @A4r (
 A7 @A4s (
 A7 @A4v (
 A7 @A4t (
 A7 @A4w (
 A7 @A4x (
 A7 @A50 (
 A7 @A4y (
 A7 @A51 (
 A7 @A52 (
 A7 @A55 (
 A7 @A53 (
 A7 @A57 (
 A7 @A58 (
 A7 @A5B (
 A7 @A59 (
 A7 @A5D (
 A7 @A5E (
 A7 @A5H (
 A7 @A5F (
 A7 @A5J (
 A7 @A5K (
 A7 @A5N (
 A7 @A5L (
 A7 @A5P (
 A7 @A5Q (
 A7 @A5T (
 A7 @A5R (
 A7 @A5V (
 A7 @A5W (
 A7 @A5Z (
 A7 @A5X (
 A7 @A5b (
 A7 @A5c (
 A7 @A5f (
 A7 @A5d (
 A7 @A5h (
 A7 @A5i (
 A7 @A5l (
 A7 @A5j (
 A7 @A5n (
 A7 @A5o (
 A7 @A5r (
 A7 @A5p (
 A7 @A5t (
 A7 @A5u (
 A7 @A5x (
 A7 @A5v (
 A7 @A5z (
 A7 @A60 (
 A7 @A63 (
 A7 @A61 (
 A7 @qc (
 A7 @qd (
 A7 @qh (
 A7 @qf (
 A7 @qj (
 A7 @ql (
 A7 @qp (
 A7 @qm (
 A7 @qw (
 A7 @qx (
 A7 @rA (
 A7 @qy (
 A7 @rD (
 A7 @rE (
 A7 @rH (
 A7 @rF (
 A7 @rM (
 A7 @rO (
 A7 @rR (
 A7 @rP (
 A7 @rU (
 A7 @rV (
 A7 @rY (
 A7 @rW (
 A7 @rf (
 A7 @rq (
 A7 @rz (
 A7 @ru (
 A7 @sG (
 A7 @sI (
 A7 @sM (
 A7 @sJ (
 A7 @sO (
 A7 @sP (
 A7 @sV (
 A7 @sQ (
 A7 @sZ (
 A7 @su (
 A7 @tF (
 A7 @sw (
 A7 @tL (
 A7 @tN (
 A7 @tT (
 A7 @tO (
 A7 @tX (
 A7 @tY (
 A7 @tu (
 A7 @tZ (
 A7 @u7 (
 A7 @uA (
 A7 @uD (
 A7 @uB (
 A7 @uE (
 A7 @uF (
 A7 @uI (
 A7 @uG (
 A7 @uL (
 A7 @uM (
 A7 @uP (
 A7 @uN (
 A7 @uR (
 A7 @uS (
 A7 @uV (
 A7 @uT (
 A7 @uX (
 A7 @uY (
 A7 @ug (
 A7 @uZ (
 A7 @uj (
 A7 @uk (
 A7 @uo (
 A7 @ul (
 A7 @ut (
 A7 @uu (
 A7 @uz (
 A7 @uw (
 A7 @A4l (
 A7 @A4u (
 A7 @A54 (
 A7 @A5G (
 A7 @A5M (
 A7 @A5S (
 A7 @A5e (
 A7 @A5q (
 A7 @rQ (
 A7 @sU (
 A7 @uH (
 A7 @uO (
 A7 @kT (
 A7 @kU (
 A7 @kV (
 A7 @kW (
 A7 @kX (
 A7 @kY (
 A7 @kZ (
 A7 @zo3 (
 A7 @zo4 (
 A7 @zo5 (
 A7 @A4f (
 A7 @A4p (
 A7 @A4z (
 A7 @A5A (
 A7 @A5Y (
 A7 @A5k (
 A7 @A5w (
 A7 @A62 (
 A7 @qg (
 A7 @qo (
 A7 @qz (
 A7 @rG (
 A7 @rX (
 A7 @ry (
 A7 @sK (
 A7 @tC (
 A7 @tQ (
 A7 @tq (
 A7 @uC (
 A7 @uU (
 A7 @uf (
 A7 @um (
 A7 @uy (
 A7 @le3 (
 A7 @le4 (
 A7 @le5 (
 A7 @le6 (
 A7 @le7 (
 A7 @le8 (
 A7 @le9 (
 A7 @A64 (
 A7 @A65 (
 A7 @A66 (
 A7 @A67 (
 A7 @A68 (
 A7 @A69 (
 A7 @A6A (
 A7 @A6B (
 A7 @A6C (
 A7 @A6D (
 A7 @A6E (
 A7 @A6F (
 A7 @A6G (
 A7 @A6H (
 A7 @A6I (
 A7 @A6J (
 A7 @A6K (
 A7 @A6L (
 A7 @A6M (
 A7 @A6N (
 A7 @A6O (
 A7 @A6P (
 A7 @A6Q (
 A7 @A6R (
 A7 @A6S (
 A7 @A6T (
 A7 @A6U (
 A7 @A6V (
 A7 @A6W (
 A7 @A6X (
 A7 @A6Y (
 A7 @A6Z (
 A7 @A6a (
 A7 @A6b (
 A7 @A6c (
 A7 @A6d (
 A7 @A6e (
 A7 @A6f (
 A7 @A6g (
 A7 @A6h (
 A7 @A6i (
 A7 @A6j (
 A7 @A6k (
 A7 @A6l (
 A7 @A6m (
 A7 @A6n (
 A7 @A6o (
 A7 @A6p (
 A7 @A6q (
 A7 @A6r (
 A7 @A6s (
 A7 @A6t (
 A7 @A6u (
 A7 @A6v (
 A7 @A6w (
 A7 @A6x (
 A7 @A6y (
 A7 @A6z (
 A7 @A70 (
 A7 @A71 (
 A7 @A72 (
 A7 @A73 (
 A7 @A74 (
 A7 @A75 (
 A7 @A76 (
 A7 @A77 (
 A7 @A78 (
 A7 @A79 (
 A7 @A7A (
 A7 @A7B (
 A7 @A7C (
 A7 @A7D (
 A7 @A7E (
 A7 @A7F (
 A7 @A7G (
 A7 @A7H (
 A7 @A7I (
 A7 @A7J (
 A7 @A7K (
 A7 @A7L (
 A7 @A7M (
 A7 @A7N (
 A7 @A7O (
 A7 @A7P (
 A7 @A7Q (
 A7 @A7R (
 A7 @A7S (
 A7 @A7T (
 A7 @A7U (
 A7 @A7V (
 A7 @vB (
 A7 @vC (
 A7 @vD (
 A7 @vE (
 A7 @vF (
 A7 @vG (
 A7 @vH (
 A7 @vI (
 A7 @vJ (
 A7 @vK (
 A7 @vL (
 A7 @vM (
 A7 @vN (
 A7 @vO (
 A7 @vP (
 A7 @vQ (
 A7 @vR (
 A7 @vS (
 A7 @vT (
 A7 @kr (
 A7 @vU (
 A7 @vV (
 A7 @vW (
 A7 @vX (
 A7 @vY (
 A7 @vZ (
 A7 @vg (
 A7 @vk (
 A7 @vo (
 A7 @vz (
 A7 @w9 (
 A7 @wB (
 A7 @wC (
 A7 @wD (
 A7 @wE (
 A7 @wF (
 A7 @wG (
 A7 @wH (
 A7 @wI (
 A7 @wJ (
 A7 @wK (
 A7 @wL (
 A7 @wM (
 A7 @wN (
 A7 @wO (
 A7 @wP (
 A7 @wQ (
 A7 @wR (
 A7 @wS (
 A7 @wT (
 A7 @wU (
 A7 @wV (
 A7 @wW (
 A7 @wX (
 A7 @wY (
 A7 @wZ (
 A7 @wh (
 A7 @wm (
 A7 @wo (
 A7 @wu (
 A7 @ww (
 A7 @wy (
 A7 @wz (
 A7 @x8 (
 A7 @x9 (
 A7 @xA (
 A7 @xB (
 A7 @xC (
 A7 @xD (
 A7 @xE (
 A7 @ku (
 A7 @xF (
 A7 @xG (
 A7 @xH (
 A7 @xI (
 A7 @xJ (
 A7 @xK (
 A7 @xL (
 A7 @xM (
 A7 @xN (
 A7 @xO (
 A7 @xP (
 A7 @xQ (
 A7 @xR (
 A7 @xS (
 A7 @xU (
 A7 @xV (
 A7 @xW (
 A7 @xX (
 A7 @xY (
 A7 @xZ (
 A7 @xc (
 A7 @xe (
 A7 @xf (
 A7 @xg (
 A7 @xh (
 A7 @xk (
 A7 @xm (
 A7 @xn (
 A7 @xq (
 A7 @xu (
 A7 @xw (
 A7 @xx (
 A7 @xy (
 A7 @xz (
 A7 @y5 (
 A7 @y7 (
 A7 @y8 (
 A7 @y9 (
 A7 @yA (
 A7 @yB (
 A7 @yC (
 A7 @yD (
 A7 @yE (
 A7 @yF (@yG)))))))))))))))))))))))))))))))))))))))))))))))))))))))))))))))))))))))))))))))))))))))))))))))))))))))))))))))))))))))))))))))))))))))))))))))))))))))))))))))))))))))))))))))))))))))))))))))))))))))))))))))))))))))))))))))))))))))))))))))))))))))))))))))))))))))))))))))))))))))))))))))))))))))))))))))))))))))))))))))))))))))))))))))))))))))))))))))))))))))))))))))))))))))))))))))))))))))))))))))))))))))))))))))))))))))))))))))))))))))))))))))))))))))
theorem A7Y(n:Int)(h:0≤n∧n<1099511627776):Y.call 100 [.konst (.slice none 0 0),.int .i64 n] []=some (.own 26 [],[]):=Dv.Sys.call_base (QS<|YZ 100 26 n h)
theorem Sr(zs:AL)(h:zs.length<1099511627776):Y.call 115 [.clo 155 [.cptr [.sl 3 (AQ (D.int .i64) zs)]]] []=some (.own 3 (AQ (D.int .i64) (Ck zs)),[]):=Dv.Sys.call_base ((UY 115 155 3 zs h))
theorem l5(zs:AL)(h:zs.length<4611686018427387904):Y.call 152 [.vw [100000] 0 0] [.own 3 (AQ (D.int .i64) zs)]=some (.tup [],[.own 3 (AQ (D.int .i64) (Ck zs))]):=Dv.Sys.call_base (QS<|(YX 152 3 zs h))
theorem gX(xs:List D)(h:xs.length<1099511627776)(hs:xs.all DJ=true)(ho:Ak xs=false)(hf:(E5 (.own 3 xs)).isSome=true):Y.call 121 [.sl 3 xs] []=some (.own 3 xs,[]):=by
 cases xs with
 |nil=>exact Dv.Sys.call_base rfl
 |cons x xs=>
  refine Ab (Y:=Y) rfl Try.func121 yH bv ?_;show CK Y.env kv (Fx Ac 0 [ResultVar.tmp 2] _) _
  unfold kv;have h0:0+(x::xs).length<1099511627776:=by omega
  simp only [NU,Il]at h0;simp only [PT,bY]at hs ho;simp only [↓AP,kD,A7X,implies_true,DT,MI,Option.isSome_some,↓reduceIte,Nat.reduceEqDiff,Nat.reduceLT,Nat.reduceLeDiff,Nat.reduceAdd,Nat.reduceMul,Nat.reduceMod,Nat.reduceSub,List.contains_cons,List.contains_nil,Nat.reduceBEq,List.getD_cons_zero,List.getD_cons_succ,List.getD_nil,NU,RN,List.size_toArray,List.toList_toArray,List.zip_cons_cons,List.zip_nil_left,UD,UE,PR,OG,List.map_nil,dX,List.replicate_zero,List.set_cons_zero,XQ,List.set_set,PT,List.any_cons,List.any_nil,List.all_nil,NT,PQ,List.getElem?_nil,List.range_zero,beq_self_eq_true,Int.reduceLE,Int.reduceLT,Int.reduceEq,Int.reduceSub,Int.reduceAdd,Int.reduceToNat,Int.reduceNeg,Il,h0,hs,ho];simp only [qY,bZ]at hf;rw [if_pos hf]
set_option linter.defProp false in
def AR:=A7 kD (A7 ACH (A7 xc2 (A7 A4Z A7X)))
abbrev CJ:Op:= .assign (.const (.bool false))
abbrev FR:Operand:= .const (.bool true)
abbrev O3:Op:= .assign (.const (.slice none 0 0))
abbrev O4:Op:= .assign (.const (.int .i64 (-1)))
abbrev O5:Operand:= .const (.bool false)
abbrev aX:Op:= .fieldAddr 47 (tK 1) 0
end Go.Proofs.Ytclkfhhdikfcpaa
