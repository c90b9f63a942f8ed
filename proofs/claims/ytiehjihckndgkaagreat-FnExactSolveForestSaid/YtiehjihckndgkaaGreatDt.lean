/- The types of this seat as data, and the system of its calls. Conditions: none. -/
import Derived.Test.YtiehjihckndgkaaGreatRows
import Derived.Test.YtiehjihckndgkaaGreatL6
import Derived.Test.YtiehjihckndgkaaGreatSv
import Derived.KernelRfl
namespace Go.Proofs.YtiehjihckndgkaaGreat
open Go Dv
set_option linter.unusedSimpArgs false
set_option maxRecDepth 100000
def tab:List Ty:=[.other,.func,.int .i64,.int .i64,.bool,.int .u8,.int .u8,.struct [2,3,4,6],.struct [2,3,4,6],.string,.string,.string,.int .u64,.struct [9,12],.struct [9,12],.ptr,.ptr,.ptr,.struct [17],.struct [17],.other,.int .i32,.slice 26,.struct [3,3,22,22],.struct [3,3,22,22],.slice 78,.slice 3,.struct [25,26,26],.struct [25,26,26],.func,.func,.func,.other,.func,.struct [3,3,22,22],.func,.slice 79,.struct [36,26,26],.struct [36,26,26],.func,.func,.func,.func,.func,.func,.func,.func,.func,.func,.other,.func,.func,.func,.func,.other,.func,.func,.func,.func,.func,.func,.func,.func,.func,.func,.func,.func,.func,.func,.func,.func,.func,.func,.func,.struct [3,3,22,22,36,26,26],.struct [3,3,22,22,36,26,26],.func,.func,.slice 111,.slice 87,.func,.func,.int .u64,.func,.func,.func,.struct [3,3],.struct [3,3],.func,.func,.func,.ptr,.struct [3,3,22,22,36,26,26,22],.struct [3,3,22,22,36,26,26,22],.func,.func,.func,.slice 101,.func,.func,.struct [3,3,3,3],.struct [3,3,3,3],.func,.func,.func,.func,.func,.func,.func,.func,.func,.struct [3,3],.func,.func,.func,.func,.func,.func,.func,.other,.func,.func,.func,.func,.func,.func,.func,.func,.func,.func,.func,.func,.int .u32,.other,.func,.int .u64,.other,.func,.func,.func,.func,.func,.func,.func,.func,.func,.int .i64,.other,.func,.func,.func,.func,.func,.slice 155,.func,.slice 4,.func,.int .u64,.func,.func,.func,.ptr,.func,.func,.ptr,.other,.func,.func,.struct [17,17,17,9],.struct [17,17,17,9],.other,.other,.other,.func,.int .u8,.int .u8,.func,.ptr,.int .i32,.int .i32,.struct [12,12,132,174,5,5,175,176,177,178,179],.struct [12,12,132,174,5,5,175,176,177,178,179]]
def nst:List (TypeId×List (Nat×TypeId)):=[(74,[(0,34),(4,38)]),(75,[(0,34),(4,38)]),(92,[(0,34),(4,38),(7,22)]),(93,[(0,34),(4,38),(7,22)])]
def Ai:Tys:=A1g tab nst
def lends(f:FuncId):Bool:=[18,19,20,27,44,73,76,100].contains f
theorem ty1:Ai.ty 1= .func:=nr rfl
theorem ty2:Ai.ty 2= .int .i64:=nr rfl
theorem ty3:Ai.ty 3= .int .i64:=nr rfl
theorem kn3:Ai.known 3=true:=nr rfl
theorem st3:Ai.isStruct 3=false:=nr rfl
theorem zr3:Ai.zeros 3=[.int .i64 0]:=nr rfl
theorem zo3:Ai.zero1 3= .int .i64 0:=nr rfl
theorem sz3:Ai.size 3=1:=nr rfl
theorem ty4:Ai.ty 4= .bool:=nr rfl
theorem kn4:Ai.known 4=true:=nr rfl
theorem st4:Ai.isStruct 4=false:=nr rfl
theorem zr4:Ai.zeros 4=[.bool false]:=nr rfl
theorem zo4:Ai.zero1 4= .bool false:=nr rfl
theorem sz4:Ai.size 4=1:=nr rfl
theorem ty5:Ai.ty 5= .int .u8:=nr rfl
theorem kn5:Ai.known 5=true:=nr rfl
theorem st5:Ai.isStruct 5=false:=nr rfl
theorem zr5:Ai.zeros 5=[.int .u8 0]:=nr rfl
theorem zo5:Ai.zero1 5= .int .u8 0:=nr rfl
theorem sz5:Ai.size 5=1:=nr rfl
theorem ty6:Ai.ty 6= .int .u8:=nr rfl
theorem ty7:Ai.ty 7= .struct [2,3,4,6]:=nr rfl
theorem ty8:Ai.ty 8= .struct [2,3,4,6]:=nr rfl
theorem ty9:Ai.ty 9= .string:=nr rfl
theorem AWS:Ai.ty 10= .string:=nr rfl
theorem AWT:Ai.ty 11= .string:=nr rfl
theorem AWU:Ai.ty 12= .int .u64:=nr rfl
theorem AWV:Ai.ty 13= .struct [9,12]:=nr rfl
theorem AWW:Ai.ty 14= .struct [9,12]:=nr rfl
theorem AWX:Ai.ty 15= .ptr:=nr rfl
theorem AWY:Ai.ty 16= .ptr:=nr rfl
theorem AWZ:Ai.ty 17= .ptr:=nr rfl
theorem AWa:Ai.ty 18= .struct [17]:=nr rfl
theorem AWb:Ai.ty 19= .struct [17]:=nr rfl
theorem AWc:Ai.ty 21= .int .i32:=nr rfl
theorem ACj:Ai.ty 22= .slice 26:=nr rfl
theorem AHz:Ai.known 22=true:=nr rfl
theorem AI0:Ai.isStruct 22=false:=nr rfl
theorem AI1:Ai.zeros 22=[.own 26 []]:=nr rfl
theorem AI2:Ai.zero1 22= .own 26 []:=nr rfl
theorem AI3:Ai.size 22=1:=nr rfl
theorem AWd:Ai.ty 23= .struct [3,3,22,22]:=nr rfl
theorem ACk:Ai.ty 24= .struct [3,3,22,22]:=nr rfl
theorem AI4:Ai.known 24=true:=nr rfl
theorem AI5:Ai.isStruct 24=true:=nr rfl
theorem AI6:Ai.zeros 24=[.int .i64 0,.int .i64 0,.own 26 [],.own 26 []]:=nr rfl
theorem AI7:Ai.nest 24=none:=nr rfl
theorem AI8:Ai.size 24=4:=nr rfl
theorem ACl:Ai.ty 25= .slice 78:=nr rfl
theorem AI9:Ai.known 25=true:=nr rfl
theorem AIA:Ai.isStruct 25=false:=nr rfl
theorem AIB:Ai.zeros 25=[.own 78 []]:=nr rfl
theorem AIC:Ai.zero1 25= .own 78 []:=nr rfl
theorem AID:Ai.size 25=1:=nr rfl
theorem A76:Ai.ty 26= .slice 3:=nr rfl
theorem AIE:Ai.known 26=true:=nr rfl
theorem AIF:Ai.isStruct 26=false:=nr rfl
theorem AIG:Ai.zeros 26=[.own 3 []]:=nr rfl
theorem AIH:Ai.zero1 26= .own 3 []:=nr rfl
theorem AII:Ai.size 26=1:=nr rfl
theorem AWe:Ai.ty 27= .struct [25,26,26]:=nr rfl
theorem ACm:Ai.ty 28= .struct [25,26,26]:=nr rfl
theorem AIJ:Ai.known 28=true:=nr rfl
theorem AIK:Ai.isStruct 28=true:=nr rfl
theorem AIL:Ai.zeros 28=[.own 78 [],.own 3 [],.own 3 []]:=nr rfl
theorem AIM:Ai.nest 28=none:=nr rfl
theorem AIN:Ai.size 28=3:=nr rfl
theorem AWf:Ai.ty 29= .func:=nr rfl
theorem AWg:Ai.ty 30= .func:=nr rfl
theorem AWh:Ai.ty 31= .func:=nr rfl
theorem AWi:Ai.ty 33= .func:=nr rfl
theorem AIO:Ai.ty 34= .struct [3,3,22,22]:=nr rfl
theorem AIP:Ai.known 34=true:=nr rfl
theorem AIQ:Ai.isStruct 34=true:=nr rfl
theorem AIR:Ai.zeros 34=[.int .i64 0,.int .i64 0,.own 26 [],.own 26 []]:=nr rfl
theorem AIS:Ai.nest 34=none:=nr rfl
theorem AIT:Ai.size 34=4:=nr rfl
theorem AWj:Ai.ty 35= .func:=nr rfl
theorem AIU:Ai.ty 36= .slice 79:=nr rfl
theorem AIV:Ai.known 36=true:=nr rfl
theorem AIW:Ai.isStruct 36=false:=nr rfl
theorem AIX:Ai.zeros 36=[.own 79 []]:=nr rfl
theorem AIY:Ai.zero1 36= .own 79 []:=nr rfl
theorem AIZ:Ai.size 36=1:=nr rfl
theorem AWk:Ai.ty 37= .struct [36,26,26]:=nr rfl
theorem AIa:Ai.ty 38= .struct [36,26,26]:=nr rfl
theorem AIb:Ai.known 38=true:=nr rfl
theorem AIc:Ai.isStruct 38=true:=nr rfl
theorem AId:Ai.zeros 38=[.own 79 [],.own 3 [],.own 3 []]:=nr rfl
theorem AIe:Ai.nest 38=none:=nr rfl
theorem AIf:Ai.size 38=3:=nr rfl
theorem AWl:Ai.ty 39= .func:=nr rfl
theorem AWm:Ai.ty 40= .func:=nr rfl
theorem AWn:Ai.ty 41= .func:=nr rfl
theorem AWo:Ai.ty 42= .func:=nr rfl
theorem AWp:Ai.ty 43= .func:=nr rfl
theorem AWq:Ai.ty 44= .func:=nr rfl
theorem AWr:Ai.ty 45= .func:=nr rfl
theorem AWs:Ai.ty 46= .func:=nr rfl
theorem AWt:Ai.ty 47= .func:=nr rfl
theorem AWu:Ai.ty 48= .func:=nr rfl
theorem AWv:Ai.ty 50= .func:=nr rfl
theorem AWw:Ai.ty 51= .func:=nr rfl
theorem AWx:Ai.ty 52= .func:=nr rfl
theorem AWy:Ai.ty 53= .func:=nr rfl
theorem AWz:Ai.ty 55= .func:=nr rfl
theorem AX0:Ai.ty 56= .func:=nr rfl
theorem AX1:Ai.ty 57= .func:=nr rfl
theorem AX2:Ai.ty 58= .func:=nr rfl
theorem AX3:Ai.ty 59= .func:=nr rfl
theorem AX4:Ai.ty 60= .func:=nr rfl
theorem AX5:Ai.ty 61= .func:=nr rfl
theorem AX6:Ai.ty 62= .func:=nr rfl
theorem AX7:Ai.ty 63= .func:=nr rfl
theorem AX8:Ai.ty 64= .func:=nr rfl
theorem AX9:Ai.ty 65= .func:=nr rfl
theorem AXA:Ai.ty 66= .func:=nr rfl
theorem AXB:Ai.ty 67= .func:=nr rfl
theorem AXC:Ai.ty 68= .func:=nr rfl
theorem AXD:Ai.ty 69= .func:=nr rfl
theorem AXE:Ai.ty 70= .func:=nr rfl
theorem AXF:Ai.ty 71= .func:=nr rfl
theorem AXG:Ai.ty 72= .func:=nr rfl
theorem AXH:Ai.ty 73= .func:=nr rfl
theorem AXI:Ai.ty 74= .struct [3,3,22,22,36,26,26]:=nr rfl
theorem AIg:Ai.ty 75= .struct [3,3,22,22,36,26,26]:=nr rfl
theorem AIh:Ai.known 75=true:=nr rfl
theorem AIi:Ai.isStruct 75=true:=nr rfl
theorem AIj:Ai.zeros 75=[.int .i64 0,.int .i64 0,.own 26 [],.own 26 [],.own 79 [],.own 3 [],.own 3 []]:=nr rfl
theorem AIk:Ai.nest 75=some [(0,34),(4,38)]:=nr rfl
theorem A40:Ai.foff 75 0=some 0:=nr rfl
theorem A41:Ai.foff 75 1=some 4:=nr rfl
theorem AIl:Ai.size 75=7:=nr rfl
theorem AXJ:Ai.ty 76= .func:=nr rfl
theorem AXK:Ai.ty 77= .func:=nr rfl
theorem ACn:Ai.ty 78= .slice 111:=nr rfl
theorem AIm:Ai.known 78=true:=nr rfl
theorem AIn:Ai.isStruct 78=false:=nr rfl
theorem AIo:Ai.zeros 78=[.own 111 []]:=nr rfl
theorem AIp:Ai.zero1 78= .own 111 []:=nr rfl
theorem AIq:Ai.size 78=1:=nr rfl
theorem AIr:Ai.ty 79= .slice 87:=nr rfl
theorem AIs:Ai.known 79=true:=nr rfl
theorem AIt:Ai.isStruct 79=false:=nr rfl
theorem AIu:Ai.zeros 79=[.own 87 []]:=nr rfl
theorem AIv:Ai.zero1 79= .own 87 []:=nr rfl
theorem AIw:Ai.size 79=1:=nr rfl
theorem AXL:Ai.ty 80= .func:=nr rfl
theorem AXM:Ai.ty 81= .func:=nr rfl
theorem AIx:Ai.ty 82= .int .u64:=nr rfl
theorem AIy:Ai.known 82=true:=nr rfl
theorem AIz:Ai.isStruct 82=false:=nr rfl
theorem AJ0:Ai.zeros 82=[.int .u64 0]:=nr rfl
theorem AJ1:Ai.zero1 82= .int .u64 0:=nr rfl
theorem AJ2:Ai.size 82=1:=nr rfl
theorem AXN:Ai.ty 83= .func:=nr rfl
theorem AXO:Ai.ty 84= .func:=nr rfl
theorem AXP:Ai.ty 85= .func:=nr rfl
theorem AXQ:Ai.ty 86= .struct [3,3]:=nr rfl
theorem AJ3:Ai.ty 87= .struct [3,3]:=nr rfl
theorem AJ4:Ai.known 87=true:=nr rfl
theorem AJ5:Ai.isStruct 87=true:=nr rfl
theorem AJ6:Ai.zeros 87=[.int .i64 0,.int .i64 0]:=nr rfl
theorem AJ7:Ai.nest 87=none:=nr rfl
theorem AJ8:Ai.size 87=2:=nr rfl
theorem AXR:Ai.ty 88= .func:=nr rfl
theorem AXS:Ai.ty 89= .func:=nr rfl
theorem AJ9:Ai.ty 90= .func:=nr rfl
theorem AJA:Ai.known 90=true:=nr rfl
theorem AJB:Ai.isStruct 90=false:=nr rfl
theorem AJC:Ai.zeros 90=[.konst .nilFunc]:=nr rfl
theorem AJD:Ai.zero1 90= .konst .nilFunc:=nr rfl
theorem AJE:Ai.size 90=1:=nr rfl
theorem AJF:Ai.ty 91= .ptr:=nr rfl
theorem AJG:Ai.known 91=true:=nr rfl
theorem AJH:Ai.isStruct 91=false:=nr rfl
theorem AJI:Ai.zeros 91=[.konst (.pointer none)]:=nr rfl
theorem AJJ:Ai.zero1 91= .konst (.pointer none):=nr rfl
theorem AJK:Ai.size 91=1:=nr rfl
theorem AXT:Ai.ty 92= .struct [3,3,22,22,36,26,26,22]:=nr rfl
theorem AJL:Ai.ty 93= .struct [3,3,22,22,36,26,26,22]:=nr rfl
theorem AJM:Ai.known 93=true:=nr rfl
theorem AJN:Ai.isStruct 93=true:=nr rfl
theorem AJO:Ai.zeros 93=[.int .i64 0,.int .i64 0,.own 26 [],.own 26 [],.own 79 [],.own 3 [],.own 3 [],.own 26 []]:=nr rfl
theorem AJP:Ai.nest 93=some [(0,34),(4,38),(7,22)]:=nr rfl
theorem A42:Ai.foff 93 0=some 0:=nr rfl
theorem A43:Ai.foff 93 1=some 4:=nr rfl
theorem A44:Ai.foff 93 2=some 7:=nr rfl
theorem AJQ:Ai.size 93=8:=nr rfl
theorem AXU:Ai.ty 94= .func:=nr rfl
theorem AXV:Ai.ty 95= .func:=nr rfl
theorem AXW:Ai.ty 96= .func:=nr rfl
theorem AJR:Ai.ty 97= .slice 101:=nr rfl
theorem AJS:Ai.known 97=true:=nr rfl
theorem AJT:Ai.isStruct 97=false:=nr rfl
theorem AJU:Ai.zeros 97=[.own 101 []]:=nr rfl
theorem AJV:Ai.zero1 97= .own 101 []:=nr rfl
theorem AJW:Ai.size 97=1:=nr rfl
theorem AXX:Ai.ty 98= .func:=nr rfl
theorem AXY:Ai.ty 99= .func:=nr rfl
theorem ATe:Ai.ty 100= .struct [3,3,3,3]:=nr rfl
theorem A8K:Ai.ty 101= .struct [3,3,3,3]:=nr rfl
theorem A8L:Ai.known 101=true:=nr rfl
theorem A8M:Ai.isStruct 101=true:=nr rfl
theorem A8N:Ai.zeros 101=[.int .i64 0,.int .i64 0,.int .i64 0,.int .i64 0]:=nr rfl
theorem A8O:Ai.nest 101=none:=nr rfl
theorem A8P:Ai.size 101=4:=nr rfl
theorem A8Q:Ai.ty 102= .func:=nr rfl
theorem A8R:Ai.known 102=true:=nr rfl
theorem A8S:Ai.isStruct 102=false:=nr rfl
theorem A8T:Ai.zeros 102=[.konst .nilFunc]:=nr rfl
theorem A8U:Ai.zero1 102= .konst .nilFunc:=nr rfl
theorem A8V:Ai.size 102=1:=nr rfl
theorem ATf:Ai.ty 103= .func:=nr rfl
theorem ATg:Ai.ty 104= .func:=nr rfl
theorem A8W:Ai.ty 105= .func:=nr rfl
theorem A8X:Ai.known 105=true:=nr rfl
theorem A8Y:Ai.isStruct 105=false:=nr rfl
theorem A8Z:Ai.zeros 105=[.konst .nilFunc]:=nr rfl
theorem A8a:Ai.zero1 105= .konst .nilFunc:=nr rfl
theorem A8b:Ai.size 105=1:=nr rfl
theorem ATh:Ai.ty 106= .func:=nr rfl
theorem ATi:Ai.ty 107= .func:=nr rfl
theorem ATj:Ai.ty 108= .func:=nr rfl
theorem ATk:Ai.ty 109= .func:=nr rfl
theorem ATl:Ai.ty 110= .func:=nr rfl
theorem A45:Ai.ty 111= .struct [3,3]:=nr rfl
theorem A8c:Ai.known 111=true:=nr rfl
theorem A8d:Ai.isStruct 111=true:=nr rfl
theorem A8e:Ai.zeros 111=[.int .i64 0,.int .i64 0]:=nr rfl
theorem A8f:Ai.nest 111=none:=nr rfl
theorem A8g:Ai.size 111=2:=nr rfl
theorem A8h:Ai.ty 112= .func:=nr rfl
theorem A8i:Ai.known 112=true:=nr rfl
theorem A8j:Ai.isStruct 112=false:=nr rfl
theorem A8k:Ai.zeros 112=[.konst .nilFunc]:=nr rfl
theorem A8l:Ai.zero1 112= .konst .nilFunc:=nr rfl
theorem A8m:Ai.size 112=1:=nr rfl
theorem ATm:Ai.ty 113= .func:=nr rfl
theorem ATn:Ai.ty 114= .func:=nr rfl
theorem ATo:Ai.ty 115= .func:=nr rfl
theorem ATp:Ai.ty 116= .func:=nr rfl
theorem ATq:Ai.ty 117= .func:=nr rfl
theorem ATr:Ai.ty 118= .func:=nr rfl
theorem ATs:Ai.ty 120= .func:=nr rfl
theorem ATt:Ai.ty 121= .func:=nr rfl
theorem ATu:Ai.ty 122= .func:=nr rfl
theorem ATv:Ai.ty 123= .func:=nr rfl
theorem A8n:Ai.ty 124= .func:=nr rfl
theorem A8o:Ai.known 124=true:=nr rfl
theorem A8p:Ai.isStruct 124=false:=nr rfl
theorem A8q:Ai.zeros 124=[.konst .nilFunc]:=nr rfl
theorem A8r:Ai.zero1 124= .konst .nilFunc:=nr rfl
theorem A8s:Ai.size 124=1:=nr rfl
theorem ATw:Ai.ty 125= .func:=nr rfl
theorem ATx:Ai.ty 126= .func:=nr rfl
theorem ATy:Ai.ty 127= .func:=nr rfl
theorem ATz:Ai.ty 128= .func:=nr rfl
theorem AU0:Ai.ty 129= .func:=nr rfl
theorem AU1:Ai.ty 130= .func:=nr rfl
theorem AU2:Ai.ty 131= .func:=nr rfl
theorem A8t:Ai.ty 132= .int .u32:=nr rfl
theorem A8u:Ai.known 132=true:=nr rfl
theorem A8v:Ai.isStruct 132=false:=nr rfl
theorem A8w:Ai.zeros 132=[.int .u32 0]:=nr rfl
theorem A8x:Ai.zero1 132= .int .u32 0:=nr rfl
theorem A8y:Ai.size 132=1:=nr rfl
theorem AU3:Ai.ty 134= .func:=nr rfl
theorem A8z:Ai.ty 135= .int .u64:=nr rfl
theorem A90:Ai.known 135=true:=nr rfl
theorem A91:Ai.isStruct 135=false:=nr rfl
theorem A92:Ai.zeros 135=[.int .u64 0]:=nr rfl
theorem A93:Ai.zero1 135= .int .u64 0:=nr rfl
theorem A94:Ai.size 135=1:=nr rfl
theorem AU4:Ai.ty 137= .func:=nr rfl
theorem AU5:Ai.ty 138= .func:=nr rfl
theorem AU6:Ai.ty 139= .func:=nr rfl
theorem AU7:Ai.ty 140= .func:=nr rfl
theorem A95:Ai.ty 141= .func:=nr rfl
theorem A96:Ai.known 141=true:=nr rfl
theorem A97:Ai.isStruct 141=false:=nr rfl
theorem A98:Ai.zeros 141=[.konst .nilFunc]:=nr rfl
theorem A99:Ai.zero1 141= .konst .nilFunc:=nr rfl
theorem A9A:Ai.size 141=1:=nr rfl
theorem A9B:Ai.ty 142= .func:=nr rfl
theorem A9C:Ai.known 142=true:=nr rfl
theorem A9D:Ai.isStruct 142=false:=nr rfl
theorem A9E:Ai.zeros 142=[.konst .nilFunc]:=nr rfl
theorem A9F:Ai.zero1 142= .konst .nilFunc:=nr rfl
theorem A9G:Ai.size 142=1:=nr rfl
theorem AU8:Ai.ty 143= .func:=nr rfl
theorem AU9:Ai.ty 144= .func:=nr rfl
theorem AUA:Ai.ty 145= .func:=nr rfl
theorem A9H:Ai.ty 146= .int .i64:=nr rfl
theorem A9I:Ai.known 146=true:=nr rfl
theorem A9J:Ai.isStruct 146=false:=nr rfl
theorem A9K:Ai.zeros 146=[.int .i64 0]:=nr rfl
theorem A9L:Ai.zero1 146= .int .i64 0:=nr rfl
theorem A9M:Ai.size 146=1:=nr rfl
theorem AUB:Ai.ty 148= .func:=nr rfl
theorem AUC:Ai.ty 149= .func:=nr rfl
theorem AUD:Ai.ty 150= .func:=nr rfl
theorem AUE:Ai.ty 151= .func:=nr rfl
theorem AUF:Ai.ty 152= .func:=nr rfl
theorem A9N:Ai.ty 153= .slice 155:=nr rfl
theorem A9O:Ai.known 153=true:=nr rfl
theorem A9P:Ai.isStruct 153=false:=nr rfl
theorem A9Q:Ai.zeros 153=[.own 155 []]:=nr rfl
theorem A9R:Ai.zero1 153= .own 155 []:=nr rfl
theorem A9S:Ai.size 153=1:=nr rfl
theorem AUG:Ai.ty 154= .func:=nr rfl
theorem A9T:Ai.ty 155= .slice 4:=nr rfl
theorem A9U:Ai.known 155=true:=nr rfl
theorem A9V:Ai.isStruct 155=false:=nr rfl
theorem A9W:Ai.zeros 155=[.own 4 []]:=nr rfl
theorem A9X:Ai.zero1 155= .own 4 []:=nr rfl
theorem A9Y:Ai.size 155=1:=nr rfl
theorem AUH:Ai.ty 156= .func:=nr rfl
theorem A9Z:Ai.ty 157= .int .u64:=nr rfl
theorem A9a:Ai.known 157=true:=nr rfl
theorem A9b:Ai.isStruct 157=false:=nr rfl
theorem A9c:Ai.zeros 157=[.int .u64 0]:=nr rfl
theorem A9d:Ai.zero1 157= .int .u64 0:=nr rfl
theorem A9e:Ai.size 157=1:=nr rfl
theorem AUI:Ai.ty 158= .func:=nr rfl
theorem AUJ:Ai.ty 159= .func:=nr rfl
theorem AUK:Ai.ty 160= .func:=nr rfl
theorem A9f:Ai.ty 161= .ptr:=nr rfl
theorem A9g:Ai.known 161=true:=nr rfl
theorem A9h:Ai.isStruct 161=false:=nr rfl
theorem A9i:Ai.zeros 161=[.konst (.pointer none)]:=nr rfl
theorem A9j:Ai.zero1 161= .konst (.pointer none):=nr rfl
theorem A9k:Ai.size 161=1:=nr rfl
theorem AUL:Ai.ty 162= .func:=nr rfl
theorem AUM:Ai.ty 163= .func:=nr rfl
theorem AUN:Ai.ty 164= .ptr:=nr rfl
theorem AUO:Ai.ty 166= .func:=nr rfl
theorem AUP:Ai.ty 167= .func:=nr rfl
theorem AUQ:Ai.ty 168= .struct [17,17,17,9]:=nr rfl
theorem AUR:Ai.ty 169= .struct [17,17,17,9]:=nr rfl
theorem AUS:Ai.ty 173= .func:=nr rfl
theorem AUT:Ai.ty 174= .int .u8:=nr rfl
theorem AUU:Ai.ty 175= .int .u8:=nr rfl
theorem AUV:Ai.ty 176= .func:=nr rfl
theorem AUW:Ai.ty 177= .ptr:=nr rfl
theorem AUX:Ai.ty 178= .int .i32:=nr rfl
theorem AUY:Ai.ty 179= .int .i32:=nr rfl
theorem AUZ:Ai.ty 180= .struct [12,12,132,174,5,5,175,176,177,178,179]:=nr rfl
theorem AUa:Ai.ty 181= .struct [12,12,132,174,5,5,175,176,177,178,179]:=nr rfl
theorem le3:lends 3=false:=nr rfl
theorem le4:lends 4=false:=nr rfl
theorem le5:lends 5=false:=nr rfl
theorem le6:lends 6=false:=nr rfl
theorem le7:lends 7=false:=nr rfl
theorem le8:lends 8=false:=nr rfl
theorem le9:lends 9=false:=nr rfl
theorem AJX:lends 10=false:=nr rfl
theorem AJY:lends 11=false:=nr rfl
theorem AJZ:lends 12=false:=nr rfl
theorem AJa:lends 13=false:=nr rfl
theorem AJb:lends 14=false:=nr rfl
theorem AJc:lends 15=false:=nr rfl
theorem AJd:lends 16=false:=nr rfl
theorem AJe:lends 17=false:=nr rfl
theorem AJf:lends 18=true:=nr rfl
theorem AJg:lends 19=true:=nr rfl
theorem AJh:lends 20=true:=nr rfl
theorem AJi:lends 21=false:=nr rfl
theorem AJj:lends 22=false:=nr rfl
theorem AJk:lends 23=false:=nr rfl
theorem AJl:lends 24=false:=nr rfl
theorem AJm:lends 25=false:=nr rfl
theorem AJn:lends 26=false:=nr rfl
theorem AJo:lends 27=true:=nr rfl
theorem AJp:lends 28=false:=nr rfl
theorem AJq:lends 29=false:=nr rfl
theorem AJr:lends 30=false:=nr rfl
theorem AJs:lends 31=false:=nr rfl
theorem AJt:lends 32=false:=nr rfl
theorem AJu:lends 33=false:=nr rfl
theorem AJv:lends 34=false:=nr rfl
theorem AJw:lends 35=false:=nr rfl
theorem AJx:lends 36=false:=nr rfl
theorem AJy:lends 37=false:=nr rfl
theorem AJz:lends 38=false:=nr rfl
theorem AK0:lends 39=false:=nr rfl
theorem AK1:lends 40=false:=nr rfl
theorem AK2:lends 41=false:=nr rfl
theorem AK3:lends 42=false:=nr rfl
theorem AK4:lends 43=false:=nr rfl
theorem AK5:lends 44=true:=nr rfl
theorem AK6:lends 45=false:=nr rfl
theorem AK7:lends 46=false:=nr rfl
theorem AK8:lends 47=false:=nr rfl
theorem AK9:lends 48=false:=nr rfl
theorem AKA:lends 49=false:=nr rfl
theorem AKB:lends 50=false:=nr rfl
theorem AKC:lends 51=false:=nr rfl
theorem AKD:lends 52=false:=nr rfl
theorem AKE:lends 53=false:=nr rfl
theorem AKF:lends 54=false:=nr rfl
theorem AKG:lends 55=false:=nr rfl
theorem AKH:lends 56=false:=nr rfl
theorem AKI:lends 57=false:=nr rfl
theorem AKJ:lends 58=false:=nr rfl
theorem AKK:lends 59=false:=nr rfl
theorem AKL:lends 60=false:=nr rfl
theorem AKM:lends 61=false:=nr rfl
theorem AKN:lends 62=false:=nr rfl
theorem AKO:lends 63=false:=nr rfl
theorem AKP:lends 64=false:=nr rfl
theorem AKQ:lends 65=false:=nr rfl
theorem AKR:lends 66=false:=nr rfl
theorem AKS:lends 67=false:=nr rfl
theorem AKT:lends 68=false:=nr rfl
theorem AKU:lends 69=false:=nr rfl
theorem AKV:lends 70=false:=nr rfl
theorem AKW:lends 71=false:=nr rfl
theorem AKX:lends 72=false:=nr rfl
theorem AKY:lends 73=true:=nr rfl
theorem AKZ:lends 74=false:=nr rfl
theorem AKa:lends 75=false:=nr rfl
theorem AKb:lends 76=true:=nr rfl
theorem AKc:lends 77=false:=nr rfl
theorem AKd:lends 78=false:=nr rfl
theorem AKe:lends 79=false:=nr rfl
theorem ACo:lends 80=false:=nr rfl
theorem AKf:lends 81=false:=nr rfl
theorem AKg:lends 82=false:=nr rfl
theorem AKh:lends 83=false:=nr rfl
theorem AKi:lends 84=false:=nr rfl
theorem AKj:lends 85=false:=nr rfl
theorem AKk:lends 86=false:=nr rfl
theorem AKl:lends 87=false:=nr rfl
theorem AKm:lends 88=false:=nr rfl
theorem AKn:lends 89=false:=nr rfl
theorem AKo:lends 90=false:=nr rfl
theorem AKp:lends 91=false:=nr rfl
theorem AKq:lends 92=false:=nr rfl
theorem AKr:lends 93=false:=nr rfl
theorem AKs:lends 94=false:=nr rfl
theorem AKt:lends 95=false:=nr rfl
theorem AKu:lends 96=false:=nr rfl
theorem AKv:lends 97=false:=nr rfl
theorem ACp:lends 98=false:=nr rfl
theorem AKw:lends 99=false:=nr rfl
theorem A9l:lends 100=true:=nr rfl
theorem A9m:lends 101=false:=nr rfl
theorem A9n:lends 102=false:=nr rfl
theorem A9o:lends 103=false:=nr rfl
theorem A46:lends 104=false:=nr rfl
theorem A9p:lends 105=false:=nr rfl
theorem A9q:lends 106=false:=nr rfl
theorem A9r:lends 107=false:=nr rfl
theorem A9s:lends 108=false:=nr rfl
theorem A9t:lends 109=false:=nr rfl
theorem A9u:lends 110=false:=nr rfl
theorem A9v:lends 111=false:=nr rfl
theorem A9w:lends 112=false:=nr rfl
theorem A9x:lends 113=false:=nr rfl
theorem A9y:lends 114=false:=nr rfl
theorem A9z:lends 115=false:=nr rfl
theorem AA0:lends 116=false:=nr rfl
theorem AA1:lends 117=false:=nr rfl
theorem AA2:lends 118=false:=nr rfl
theorem AA3:lends 119=false:=nr rfl
theorem AA4:lends 120=false:=nr rfl
theorem AA5:lends 121=false:=nr rfl
theorem AA6:lends 122=false:=nr rfl
theorem AA7:lends 123=false:=nr rfl
theorem AA8:lends 124=false:=nr rfl
theorem AA9:lends 125=false:=nr rfl
theorem AAA:lends 126=false:=nr rfl
theorem AAB:lends 127=false:=nr rfl
theorem AAC:lends 128=false:=nr rfl
theorem AAD:lends 129=false:=nr rfl
theorem AAE:lends 130=false:=nr rfl
theorem AAF:lends 131=false:=nr rfl
theorem AAG:lends 132=false:=nr rfl
theorem AAH:lends 133=false:=nr rfl
theorem AAI:lends 134=false:=nr rfl
theorem AAJ:lends 135=false:=nr rfl
theorem AAK:lends 136=false:=nr rfl
theorem AAL:lends 137=false:=nr rfl
theorem AAM:lends 138=false:=nr rfl
theorem AAN:lends 139=false:=nr rfl
theorem AAO:lends 140=false:=nr rfl
theorem AAP:lends 141=false:=nr rfl
theorem AAQ:lends 142=false:=nr rfl
theorem AAR:lends 143=false:=nr rfl
theorem AAS:lends 144=false:=nr rfl
theorem AAT:lends 145=false:=nr rfl
theorem AAU:lends 146=false:=nr rfl
theorem AAV:lends 147=false:=nr rfl
theorem AAW:lends 148=false:=nr rfl
theorem AAX:lends 149=false:=nr rfl
theorem AAY:lends 150=false:=nr rfl
theorem AAZ:lends 151=false:=nr rfl
theorem AAa:lends 152=false:=nr rfl
theorem AAb:lends 153=false:=nr rfl
theorem AAc:lends 154=false:=nr rfl
theorem AAd:lends 155=false:=nr rfl
theorem AAe:lends 156=false:=nr rfl
theorem AAf:lends 157=false:=nr rfl
theorem AAg:lends 158=false:=nr rfl
theorem AAh:lends 159=false:=nr rfl
theorem AAi:lends 160=false:=nr rfl
theorem AAj:lends 161=false:=nr rfl
theorem AAk:lends 162=false:=nr rfl
theorem AAl:lends 163=false:=nr rfl
theorem AAm:lends 164=false:=nr rfl
theorem AAn:lends 165=false:=nr rfl
theorem AAo:lends 166=false:=nr rfl
theorem AAp:lends 167=false:=nr rfl
theorem AAq:lends 168=false:=nr rfl
theorem AAr:lends 169=false:=nr rfl
theorem AAs:lends 170=false:=nr rfl
theorem AAt:lends 171=false:=nr rfl
theorem AAu:lends 172=false:=nr rfl
theorem AAv:lends 173=false:=nr rfl
theorem AAw:lends 174=false:=nr rfl
theorem AAx:lends 175=false:=nr rfl
theorem AAy:lends 176=false:=nr rfl
theorem AAz:lends 177=false:=nr rfl
theorem AB0:lends 178=false:=nr rfl
theorem AB1:lends 179=false:=nr rfl
theorem AB2:lends 180=false:=nr rfl
theorem AB3:lends 181=false:=nr rfl
set_option maxRecDepth 100000 in
theorem ACq:CK Tryz.prog Ai:=ABn (by kernel_rfl)
theorem mixed:Tryz.prog.follows .mixedOrders=true:=by kernel_rfl
noncomputable def Y0:Dv.Sys:={P:=Tryz.prog,T:=Ai,lends:=lends,base:=fun _ _ _=>none}
theorem APv:Dv.Sys.Ok Y0:=⟨ACq,mixed,fun _ _ _ _ _ h=>by cases h⟩
theorem APw(T:Tys)(s:St)(t:TypeId):ev T s t (.const .nilFunc)=some (.konst .nilFunc):=nr rfl
theorem APx(T:Tys)(s:St)(t:TypeId):ev T s t (.const .nilIface)=some (.konst .nilIface):=nr rfl
theorem APy(T:Tys)(s:St)(t:TypeId):ev T s t (.const (.pointer none))=some (.konst (.pointer none)):=nr rfl
theorem y0T:Y0.T=Ai:=nr rfl
theorem y0L:Y0.lends=lends:=nr rfl
set_option maxRecDepth 10000 in
set_option linter.defProp false in
def AKx:=
 A7 @y0T (
 A7 @y0L (
 A7 @ty3 (
 A7 @ty4 (
 A7 @ty5 (
 A7 @ACj (
 A7 @ACk (
 A7 @ACl (
 A7 @A76 (
 A7 @ACm (
 A7 @AIO (
 A7 @AIU (
 A7 @AIa (
 A7 @AIg (
 A7 @ACn (
 A7 @AIr (
 A7 @AIx (
 A7 @AJ3 (
 A7 @AJ9 (
 A7 @AJF (
 A7 @AJL (
 A7 @AJR (
 A7 @A8K (
 A7 @A8Q (
 A7 @A8W (
 A7 @A45 (
 A7 @A8h (
 A7 @A8n (
 A7 @A8t (
 A7 @A8z (
 A7 @A95 (
 A7 @A9B (
 A7 @A9H (
 A7 @A9N (
 A7 @A9T (
 A7 @A9Z (
 A7 @A9f (
 A7 @kn3 (
 A7 @st3 (
 A7 @sz3 (
 A7 @zr3 (
 A7 @kn4 (
 A7 @st4 (
 A7 @sz4 (
 A7 @zr4 (
 A7 @kn5 (
 A7 @st5 (
 A7 @sz5 (
 A7 @zr5 (
 A7 @AHz (
 A7 @AI0 (
 A7 @AI3 (
 A7 @AI1 (
 A7 @AI4 (
 A7 @AI5 (
 A7 @AI8 (
 A7 @AI6 (
 A7 @AI9 (
 A7 @AIA (
 A7 @AID (
 A7 @AIB (
 A7 @AIE (
 A7 @AIF (
 A7 @AII (
 A7 @AIG (
 A7 @AIJ (
 A7 @AIK (
 A7 @AIN (
 A7 @AIL (
 A7 @AIP (
 A7 @AIQ (
 A7 @AIT (
 A7 @AIR (
 A7 @AIV (
 A7 @AIW (
 A7 @AIZ (
 A7 @AIX (
 A7 @AIb (
 A7 @AIc (
 A7 @AIf (
 A7 @AId (
 A7 @AIh (
 A7 @AIi (
 A7 @AIl (
 A7 @AIj (
 A7 @AIm (
 A7 @AIn (
 A7 @AIq (
 A7 @AIo (
 A7 @AIs (
 A7 @AIt (
 A7 @AIw (
 A7 @AIu (
 A7 @AIy (
 A7 @AIz (
 A7 @AJ2 (
 A7 @AJ0 (
 A7 @AJ4 (
 A7 @AJ5 (
 A7 @AJ8 (
 A7 @AJ6 (
 A7 @AJA (
 A7 @AJB (
 A7 @AJE (
 A7 @AJC (
 A7 @AJG (
 A7 @AJH (
 A7 @AJK (
 A7 @AJI (
 A7 @AJM (
 A7 @AJN (
 A7 @AJQ (
 A7 @AJO (
 A7 @AJS (
 A7 @AJT (
 A7 @AJW (
 A7 @AJU (
 A7 @A8L (
 A7 @A8M (
 A7 @A8P (
 A7 @A8N (
 A7 @A8R (
 A7 @A8S (
 A7 @A8V (
 A7 @A8T (
 A7 @A8X (
 A7 @A8Y (
 A7 @A8b (
 A7 @A8Z (
 A7 @A8c (
 A7 @A8d (
 A7 @A8g (
 A7 @A8e (
 A7 @A8i (
 A7 @A8j (
 A7 @A8m (
 A7 @A8k (
 A7 @A8o (
 A7 @A8p (
 A7 @A8s (
 A7 @A8q (
 A7 @A8u (
 A7 @A8v (
 A7 @A8y (
 A7 @A8w (
 A7 @A90 (
 A7 @A91 (
 A7 @A94 (
 A7 @A92 (
 A7 @A96 (
 A7 @A97 (
 A7 @A9A (
 A7 @A98 (
 A7 @A9C (
 A7 @A9D (
 A7 @A9G (
 A7 @A9E (
 A7 @A9I (
 A7 @A9J (
 A7 @A9M (
 A7 @A9K (
 A7 @A9O (
 A7 @A9P (
 A7 @A9S (
 A7 @A9Q (
 A7 @A9U (
 A7 @A9V (
 A7 @A9Y (
 A7 @A9W (
 A7 @A9a (
 A7 @A9b (
 A7 @A9e (
 A7 @A9c (
 A7 @A9g (
 A7 @A9h (
 A7 @A9k (
 A7 @A9i (
 A7 @AI7 (
 A7 @AIM (
 A7 @AIS (
 A7 @AIe (
 A7 @AIk (
 A7 @AJ7 (
 A7 @AJP (
 A7 @A8O (
 A7 @A8f (
 A7 @A40 (
 A7 @A41 (
 A7 @A42 (
 A7 @A43 (
 A7 @A44 (
 A7 @zo3 (
 A7 @zo4 (
 A7 @zo5 (
 A7 @AI2 (
 A7 @AIC (
 A7 @AIH (
 A7 @AIY (
 A7 @AIp (
 A7 @AIv (
 A7 @AJ1 (
 A7 @AJD (
 A7 @AJJ (
 A7 @AJV (
 A7 @A8U (
 A7 @A8a (
 A7 @A8l (
 A7 @A8r (
 A7 @A8x (
 A7 @A93 (
 A7 @A99 (
 A7 @A9F (
 A7 @A9L (
 A7 @A9R (
 A7 @A9X (
 A7 @A9d (
 A7 @A9j (
 A7 @le3 (
 A7 @le4 (
 A7 @le5 (
 A7 @le6 (
 A7 @le7 (
 A7 @le8 (
 A7 @le9 (
 A7 @AJX (
 A7 @AJY (
 A7 @AJZ (
 A7 @AJa (
 A7 @AJb (
 A7 @AJc (
 A7 @AJd (
 A7 @AJe (
 A7 @AJf (
 A7 @AJg (
 A7 @AJh (
 A7 @AJi (
 A7 @AJj (
 A7 @AJk (
 A7 @AJl (
 A7 @AJm (
 A7 @AJn (
 A7 @AJo (
 A7 @AJp (
 A7 @AJq (
 A7 @AJr (
 A7 @AJs (
 A7 @AJt (
 A7 @AJu (
 A7 @AJv (
 A7 @AJw (
 A7 @AJx (
 A7 @AJy (
 A7 @AJz (
 A7 @AK0 (
 A7 @AK1 (
 A7 @AK2 (
 A7 @AK3 (
 A7 @AK4 (
 A7 @AK5 (
 A7 @AK6 (
 A7 @AK7 (
 A7 @AK8 (
 A7 @AK9 (
 A7 @AKA (
 A7 @AKB (
 A7 @AKC (
 A7 @AKD (
 A7 @AKE (
 A7 @AKF (
 A7 @AKG (
 A7 @AKH (
 A7 @AKI (
 A7 @AKJ (
 A7 @AKK (
 A7 @AKL (
 A7 @AKM (
 A7 @AKN (
 A7 @AKO (
 A7 @AKP (
 A7 @AKQ (
 A7 @AKR (
 A7 @AKS (
 A7 @AKT (
 A7 @AKU (
 A7 @AKV (
 A7 @AKW (
 A7 @AKX (
 A7 @AKY (
 A7 @AKZ (
 A7 @AKa (
 A7 @AKb (
 A7 @AKc (
 A7 @AKd (
 A7 @AKe (
 A7 @ACo (
 A7 @AKf (
 A7 @AKg (
 A7 @AKh (
 A7 @AKi (
 A7 @AKj (
 A7 @AKk (
 A7 @AKl (
 A7 @AKm (
 A7 @AKn (
 A7 @AKo (
 A7 @AKp (
 A7 @AKq (
 A7 @AKr (
 A7 @AKs (
 A7 @AKt (
 A7 @AKu (
 A7 @AKv (
 A7 @ACp (
 A7 @AKw (
 A7 @A9l (
 A7 @A9m (
 A7 @A9n (
 A7 @A9o (
 A7 @A46 (
 A7 @A9p (
 A7 @A9q (
 A7 @A9r (
 A7 @A9s (
 A7 @A9t (
 A7 @A9u (
 A7 @A9v (
 A7 @A9w (
 A7 @A9x (
 A7 @A9y (
 A7 @A9z (
 A7 @AA0 (
 A7 @AA1 (
 A7 @AA2 (
 A7 @AA3 (
 A7 @AA4 (
 A7 @AA5 (
 A7 @AA6 (
 A7 @AA7 (
 A7 @AA8 (
 A7 @AA9 (
 A7 @AAA (
 A7 @AAB (
 A7 @AAC (
 A7 @AAD (
 A7 @AAE (
 A7 @AAF (
 A7 @AAG (
 A7 @AAH (
 A7 @AAI (
 A7 @AAJ (
 A7 @AAK (
 A7 @AAL (
 A7 @AAM (
 A7 @AAN (
 A7 @AAO (
 A7 @AAP (
 A7 @AAQ (
 A7 @AAR (
 A7 @AAS (
 A7 @AAT (
 A7 @AAU (
 A7 @AAV (
 A7 @AAW (
 A7 @AAX (
 A7 @AAY (
 A7 @AAZ (
 A7 @AAa (
 A7 @AAb (
 A7 @AAc (
 A7 @AAd (
 A7 @AAe (
 A7 @AAf (
 A7 @AAg (
 A7 @AAh (
 A7 @AAi (
 A7 @AAj (
 A7 @AAk (
 A7 @AAl (
 A7 @AAm (
 A7 @AAn (
 A7 @AAo (
 A7 @AAp (
 A7 @AAq (
 A7 @AAr (
 A7 @AAs (
 A7 @AAt (
 A7 @AAu (
 A7 @AAv (
 A7 @AAw (
 A7 @AAx (
 A7 @AAy (
 A7 @AAz (
 A7 @AB0 (
 A7 @AB1 (
 A7 @AB2 (@AB3)))))))))))))))))))))))))))))))))))))))))))))))))))))))))))))))))))))))))))))))))))))))))))))))))))))))))))))))))))))))))))))))))))))))))))))))))))))))))))))))))))))))))))))))))))))))))))))))))))))))))))))))))))))))))))))))))))))))))))))))))))))))))))))))))))))))))))))))))))))))))))))))))))))))))))))))))))))))))))))))))))))))))))))))))))))))))))))))))))))))))))))))))))))))))))))))))))))))))))
def k99:SC:= .seq (.ops [oX 2 (.assign (.const (.slice none 0 0))) 26]) (.seq (.seq (.ops [oM 3 0 26,oB 4 .eql 26 (tK 3) (.const (.slice none 0 0)) 26 4]) (.cond (tK 4) (.seq (.ops [oX 2 (.assign (.const (.slice none 0 0))) 26]) .ret) .skip)) (.seq (.ops [oX 5 (.buildSlice 26 0 #[]) 26,oM 6 0 26,oX 7 (.call ⟨(.builtin .append), #[(tK 5),(tK 6)], #[26,26]⟩) 26,oA 2 7 26]) .ret))
theorem A47:Tryz.f99.body.map (BQ lends)=some k99:=by kernel_rfl
theorem AKz:BV Tryz.f99 1=true:=by kernel_rfl
theorem A1u(A:Option Addr)(c:Nat):Y0.call 99 [.konst (.slice A 0 c)] []=some (.own 3 [],[]):=by
 refine AY (Y:=Y0) rfl Tryz.func99 AKz A47 ?_;show BU Y0.env k99 (fin Ai 0 [ResultVar.tmp 2] _) _
 unfold k99
 cases A<;>simp only [↓AO,BL,AKx,implies_true,C8,V9,Option.isSome_some,↓reduceIte,Nat.reduceEqDiff,Nat.reduceLT,Nat.reduceLeDiff,Nat.reduceAdd,Nat.reduceMul,Nat.reduceMod,Nat.reduceSub,List.contains_cons,List.contains_nil,Nat.reduceBEq,List.getD_cons_zero,List.getD_cons_succ,List.getD_nil,KL,R8,List.size_toArray,List.toList_toArray,List.zip_cons_cons,List.zip_nil_left,V8,PW,Xp,WL,List.map_nil,tX,List.replicate_zero,tY,mY,List.set_set,Xq,List.any_cons,List.any_nil,List.all_nil,V5,Xo,List.getElem?_nil,List.range_zero,beq_self_eq_true,Int.reduceLE,Int.reduceLT,Int.reduceEq,Int.reduceSub,Int.reduceAdd,Int.reduceToNat,Int.reduceNeg,Option.isNone_none,Option.isNone_some]
theorem ACr:Dv.Good Tryz.prog Ai 99 [.sl 3 []] [] (.own 3 []) []:=yX kn3 (fun A c=>Dv.Sys.call_good APv (A1u A c))
def A48(f:FuncId)(a l:List D):Option (D×List D):=
 match f,a,l with
 |99,[.sl 3 []],[]=>some (.own 3 [],[])
 |_,_,_=>none
theorem A77: ∀f a l r outs,A48 f a l=some (r,outs)→Dv.Good Tryz.prog Ai f a l r outs:=by
 intro f a l r outs h;unfold A48 at h
 split at h
 ·simp only [Option.some.injEq,Prod.mk.injEq]at h;obtain⟨rfl,rfl⟩:=h;exact ACr
 ·cases h
theorem A49: ∀zs:AU,zs.length<4611686018427387904→Dv.Good Tryz.prog Ai 100 [.vw [100000] 0 0] [.own 3 (KS zs)] (.tup []) [.own 3 (KS (Le zs))]:=fun zs h=>
 A1s ⟨Tryz.f100,Tryz.func100,rfl,by decide⟩ sz3 (fun blk off cap zs w h1 h2 h3=>Tryz.slices_Sort_int blk off cap zs w h1 h2 h3) (fun p cap w=>Tryz.slices_Sort_int_none p cap w) zs h
theorem yw: ∀zs:AU,zs.length<1099511627776→Dv.Good Tryz.prog Ai 137 [.clo 156 [.cptr [.sl 3 (KS zs)]]] [] (.own 3 (KS (Le zs))) []:=fun zs h=>
 vY ⟨Tryz.f137,Tryz.func137,rfl,by decide⟩ sz3
  (fun p ad cap w h1 h2=>callsIn_wide.1 (Go.Proofs.sv.sorted_in 5 (Ch _) p _ [] (by decide) (by decide) w h1 h2 (.inl ⟨ad,cap,rfl,rfl⟩)))
  (fun p b off cap zs w h0 h1 h2 h3 h4=>callsIn_wide.1 (Go.Proofs.sv.sorted_in 5 (Ch _) p _ zs (by have:maxLen=9223372036854775807:=rfl;omega) (by omega) w h1 h2 (.inr ⟨b,off,cap,rfl,h3,h4⟩))) zs h
noncomputable def Y:Dv.Sys:={P:=Tryz.prog,T:=Ai,lends:=lends,base:=YA (YA A48 (U3 100 3)) (Po 137 156 3)}
theorem yOk:Dv.Sys.Ok Y:=⟨ACq,mixed,ZG (ZG A77 (jc A49)) (Zc yw)⟩
theorem A4A:Ai.ty 900013= .other:=nr rfl
theorem yT:Y.T=Ai:=nr rfl
theorem yL:Y.lends=lends:=nr rfl
set_option maxRecDepth 10000 in
set_option linter.defProp false in
def AL0:=
 A7 @A4A (
 A7 @yT (
 A7 @yL (
 A7 @APw (
 A7 @APx (
 A7 @APy (
 A7 @ty3 (
 A7 @ty4 (
 A7 @ty5 (
 A7 @ACj (
 A7 @ACk (
 A7 @ACl (
 A7 @A76 (
 A7 @ACm (
 A7 @AIO (
 A7 @AIU (
 A7 @AIa (
 A7 @AIg (
 A7 @ACn (
 A7 @AIr (
 A7 @AIx (
 A7 @AJ3 (
 A7 @AJ9 (
 A7 @AJF (
 A7 @AJL (
 A7 @AJR (
 A7 @A8K (
 A7 @A8Q (
 A7 @A8W (
 A7 @A45 (
 A7 @A8h (
 A7 @A8n (
 A7 @A8t (
 A7 @A8z (
 A7 @A95 (
 A7 @A9B (
 A7 @A9H (
 A7 @A9N (
 A7 @A9T (
 A7 @A9Z (
 A7 @A9f (
 A7 @kn3 (
 A7 @st3 (
 A7 @sz3 (
 A7 @zr3 (
 A7 @kn4 (
 A7 @st4 (
 A7 @sz4 (
 A7 @zr4 (
 A7 @kn5 (
 A7 @st5 (
 A7 @sz5 (
 A7 @zr5 (
 A7 @AHz (
 A7 @AI0 (
 A7 @AI3 (
 A7 @AI1 (
 A7 @AI4 (
 A7 @AI5 (
 A7 @AI8 (
 A7 @AI6 (
 A7 @AI9 (
 A7 @AIA (
 A7 @AID (
 A7 @AIB (
 A7 @AIE (
 A7 @AIF (
 A7 @AII (
 A7 @AIG (
 A7 @AIJ (
 A7 @AIK (
 A7 @AIN (
 A7 @AIL (
 A7 @AIP (
 A7 @AIQ (
 A7 @AIT (
 A7 @AIR (
 A7 @AIV (
 A7 @AIW (
 A7 @AIZ (
 A7 @AIX (
 A7 @AIb (
 A7 @AIc (
 A7 @AIf (
 A7 @AId (
 A7 @AIh (
 A7 @AIi (
 A7 @AIl (
 A7 @AIj (
 A7 @AIm (
 A7 @AIn (
 A7 @AIq (
 A7 @AIo (
 A7 @AIs (
 A7 @AIt (
 A7 @AIw (
 A7 @AIu (
 A7 @AIy (
 A7 @AIz (
 A7 @AJ2 (
 A7 @AJ0 (
 A7 @AJ4 (
 A7 @AJ5 (
 A7 @AJ8 (
 A7 @AJ6 (
 A7 @AJA (
 A7 @AJB (
 A7 @AJE (
 A7 @AJC (
 A7 @AJG (
 A7 @AJH (
 A7 @AJK (
 A7 @AJI (
 A7 @AJM (
 A7 @AJN (
 A7 @AJQ (
 A7 @AJO (
 A7 @AJS (
 A7 @AJT (
 A7 @AJW (
 A7 @AJU (
 A7 @A8L (
 A7 @A8M (
 A7 @A8P (
 A7 @A8N (
 A7 @A8R (
 A7 @A8S (
 A7 @A8V (
 A7 @A8T (
 A7 @A8X (
 A7 @A8Y (
 A7 @A8b (
 A7 @A8Z (
 A7 @A8c (
 A7 @A8d (
 A7 @A8g (
 A7 @A8e (
 A7 @A8i (
 A7 @A8j (
 A7 @A8m (
 A7 @A8k (
 A7 @A8o (
 A7 @A8p (
 A7 @A8s (
 A7 @A8q (
 A7 @A8u (
 A7 @A8v (
 A7 @A8y (
 A7 @A8w (
 A7 @A90 (
 A7 @A91 (
 A7 @A94 (
 A7 @A92 (
 A7 @A96 (
 A7 @A97 (
 A7 @A9A (
 A7 @A98 (
 A7 @A9C (
 A7 @A9D (
 A7 @A9G (
 A7 @A9E (
 A7 @A9I (
 A7 @A9J (
 A7 @A9M (
 A7 @A9K (
 A7 @A9O (
 A7 @A9P (
 A7 @A9S (
 A7 @A9Q (
 A7 @A9U (
 A7 @A9V (
 A7 @A9Y (
 A7 @A9W (
 A7 @A9a (
 A7 @A9b (
 A7 @A9e (
 A7 @A9c (
 A7 @A9g (
 A7 @A9h (
 A7 @A9k (
 A7 @A9i (
 A7 @AI7 (
 A7 @AIM (
 A7 @AIS (
 A7 @AIe (
 A7 @AIk (
 A7 @AJ7 (
 A7 @AJP (
 A7 @A8O (
 A7 @A8f (
 A7 @A40 (
 A7 @A41 (
 A7 @A42 (
 A7 @A43 (
 A7 @A44 (
 A7 @zo3 (
 A7 @zo4 (
 A7 @zo5 (
 A7 @AI2 (
 A7 @AIC (
 A7 @AIH (
 A7 @AIY (
 A7 @AIp (
 A7 @AIv (
 A7 @AJ1 (
 A7 @AJD (
 A7 @AJJ (
 A7 @AJV (
 A7 @A8U (
 A7 @A8a (
 A7 @A8l (
 A7 @A8r (
 A7 @A8x (
 A7 @A93 (
 A7 @A99 (
 A7 @A9F (
 A7 @A9L (
 A7 @A9R (
 A7 @A9X (
 A7 @A9d (
 A7 @A9j (
 A7 @le3 (
 A7 @le4 (
 A7 @le5 (
 A7 @le6 (
 A7 @le7 (
 A7 @le8 (
 A7 @le9 (
 A7 @AJX (
 A7 @AJY (
 A7 @AJZ (
 A7 @AJa (
 A7 @AJb (
 A7 @AJc (
 A7 @AJd (
 A7 @AJe (
 A7 @AJf (
 A7 @AJg (
 A7 @AJh (
 A7 @AJi (
 A7 @AJj (
 A7 @AJk (
 A7 @AJl (
 A7 @AJm (
 A7 @AJn (
 A7 @AJo (
 A7 @AJp (
 A7 @AJq (
 A7 @AJr (
 A7 @AJs (
 A7 @AJt (
 A7 @AJu (
 A7 @AJv (
 A7 @AJw (
 A7 @AJx (
 A7 @AJy (
 A7 @AJz (
 A7 @AK0 (
 A7 @AK1 (
 A7 @AK2 (
 A7 @AK3 (
 A7 @AK4 (
 A7 @AK5 (
 A7 @AK6 (
 A7 @AK7 (
 A7 @AK8 (
 A7 @AK9 (
 A7 @AKA (
 A7 @AKB (
 A7 @AKC (
 A7 @AKD (
 A7 @AKE (
 A7 @AKF (
 A7 @AKG (
 A7 @AKH (
 A7 @AKI (
 A7 @AKJ (
 A7 @AKK (
 A7 @AKL (
 A7 @AKM (
 A7 @AKN (
 A7 @AKO (
 A7 @AKP (
 A7 @AKQ (
 A7 @AKR (
 A7 @AKS (
 A7 @AKT (
 A7 @AKU (
 A7 @AKV (
 A7 @AKW (
 A7 @AKX (
 A7 @AKY (
 A7 @AKZ (
 A7 @AKa (
 A7 @AKb (
 A7 @AKc (
 A7 @AKd (
 A7 @AKe (
 A7 @ACo (
 A7 @AKf (
 A7 @AKg (
 A7 @AKh (
 A7 @AKi (
 A7 @AKj (
 A7 @AKk (
 A7 @AKl (
 A7 @AKm (
 A7 @AKn (
 A7 @AKo (
 A7 @AKp (
 A7 @AKq (
 A7 @AKr (
 A7 @AKs (
 A7 @AKt (
 A7 @AKu (
 A7 @AKv (
 A7 @ACp (
 A7 @AKw (
 A7 @A9l (
 A7 @A9m (
 A7 @A9n (
 A7 @A9o (
 A7 @A46 (
 A7 @A9p (
 A7 @A9q (
 A7 @A9r (
 A7 @A9s (
 A7 @A9t (
 A7 @A9u (
 A7 @A9v (
 A7 @A9w (
 A7 @A9x (
 A7 @A9y (
 A7 @A9z (
 A7 @AA0 (
 A7 @AA1 (
 A7 @AA2 (
 A7 @AA3 (
 A7 @AA4 (
 A7 @AA5 (
 A7 @AA6 (
 A7 @AA7 (
 A7 @AA8 (
 A7 @AA9 (
 A7 @AAA (
 A7 @AAB (
 A7 @AAC (
 A7 @AAD (
 A7 @AAE (
 A7 @AAF (
 A7 @AAG (
 A7 @AAH (
 A7 @AAI (
 A7 @AAJ (
 A7 @AAK (
 A7 @AAL (
 A7 @AAM (
 A7 @AAN (
 A7 @AAO (
 A7 @AAP (
 A7 @AAQ (
 A7 @AAR (
 A7 @AAS (
 A7 @AAT (
 A7 @AAU (
 A7 @AAV (
 A7 @AAW (
 A7 @AAX (
 A7 @AAY (
 A7 @AAZ (
 A7 @AAa (
 A7 @AAb (
 A7 @AAc (
 A7 @AAd (
 A7 @AAe (
 A7 @AAf (
 A7 @AAg (
 A7 @AAh (
 A7 @AAi (
 A7 @AAj (
 A7 @AAk (
 A7 @AAl (
 A7 @AAm (
 A7 @AAn (
 A7 @AAo (
 A7 @AAp (
 A7 @AAq (
 A7 @AAr (
 A7 @AAs (
 A7 @AAt (
 A7 @AAu (
 A7 @AAv (
 A7 @AAw (
 A7 @AAx (
 A7 @AAy (
 A7 @AAz (
 A7 @AB0 (
 A7 @AB1 (
 A7 @AB2 (@AB3)))))))))))))))))))))))))))))))))))))))))))))))))))))))))))))))))))))))))))))))))))))))))))))))))))))))))))))))))))))))))))))))))))))))))))))))))))))))))))))))))))))))))))))))))))))))))))))))))))))))))))))))))))))))))))))))))))))))))))))))))))))))))))))))))))))))))))))))))))))))))))))))))))))))))))))))))))))))))))))))))))))))))))))))))))))))))))))))))))))))))))))))))))))))))))))))))))))))))))))))
theorem yx(zs:AU)(h:zs.length<1099511627776):Y.call 137 [.clo 156 [.cptr [.sl 3 (AR (D.int .i64) zs)]]] []=some (.own 3 (AR (D.int .i64) (Le zs)),[]):=Dv.Sys.call_base ((jd 137 156 3 zs h))
theorem A4B(zs:AU)(h:zs.length<4611686018427387904):Y.call 100 [.vw [100000] 0 0] [.own 3 (AR (D.int .i64) zs)]=some (.tup [],[.own 3 (AR (D.int .i64) (Le zs))]):=Dv.Sys.call_base (vZ<|(vW 100 3 zs h))
theorem A4C(xs:List D)(h:xs.length<1099511627776)(hs:xs.all DD=true)(ho:Av xs=false)(hf:(ES (.own 3 xs)).isSome=true):Y.call 99 [.sl 3 xs] []=some (.own 3 xs,[]):=by
 cases xs with
 |nil=>exact Dv.Sys.call_base rfl
 |cons x xs=>
  refine AY (Y:=Y) rfl Tryz.func99 AKz A47 ?_;show BU Y.env k99 (fin Ai 0 [ResultVar.tmp 2] _) _
  unfold k99;have h0:0+(x::xs).length<1099511627776:=by omega
  simp only [KL,NW]at h0;simp only [Xq,A0C]at hs ho;simp only [↓AO,BL,AL0,implies_true,C8,V9,Option.isSome_some,↓reduceIte,Nat.reduceEqDiff,Nat.reduceLT,Nat.reduceLeDiff,Nat.reduceAdd,Nat.reduceMul,Nat.reduceMod,Nat.reduceSub,List.contains_cons,List.contains_nil,Nat.reduceBEq,List.getD_cons_zero,List.getD_cons_succ,List.getD_nil,KL,R8,List.size_toArray,List.toList_toArray,List.zip_cons_cons,List.zip_nil_left,V8,PW,Xp,WL,List.map_nil,tX,List.replicate_zero,tY,mY,List.set_set,Xq,List.any_cons,List.any_nil,List.all_nil,V5,Xo,List.getElem?_nil,List.range_zero,beq_self_eq_true,Int.reduceLE,Int.reduceLT,Int.reduceEq,Int.reduceSub,Int.reduceAdd,Int.reduceToNat,Int.reduceNeg,NW,h0,hs,ho];simp only [A8H,A0D]at hf;rw [if_pos hf]
set_option linter.defProp false in
def AP:=A7 BL (A7 ACi (A7 xc2 (A7 Cv AL0)))
abbrev Ba:AU→D:=fun x=>D.sl 3 (AR (D.int .i64) x)
abbrev Ew:AU→D:=fun x=>D.own 3 (AR (D.int .i64) x)
abbrev BR:Op:= .assign (.const (.bool false))
abbrev Gt:Op:= .assign (.const (.slice none 0 0))
abbrev Ck:Operand:= .const (.bool true)
abbrev RV:Op:= .assign (.const (.int .i64 (-1)))
abbrev Lm:Operand:= .const (.bool false)
abbrev A78:Op:= .buildSlice 26 1 #[(0,(.const (.int .i64 (-1))))]
end Go.Proofs.YtiehjihckndgkaaGreat
