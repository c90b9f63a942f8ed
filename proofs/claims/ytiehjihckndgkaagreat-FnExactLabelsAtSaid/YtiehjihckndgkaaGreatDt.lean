/- The types of this seat as data, and the system of its calls. Conditions: none. -/
import Derived.Test.YtiehjihckndgkaaGreatRows
import Derived.Test.YtiehjihckndgkaaGreatL6
import Derived.Test.YtiehjihckndgkaaGreatSv
import Derived.KernelRfl
namespace Go.Proofs.YtiehjihckndgkaaGreat
open Go Dv
set_option linter.unusedSimpArgs false
set_option maxRecDepth 100000
def tab:List Ty:=[.other,.func,.int .i64,.int .i64,.bool,.int .u8,.int .u8,.struct [2,3,4,6],.struct [2,3,4,6],.string,.string,.string,.int .u64,.struct [9,12],.struct [9,12],.ptr,.ptr,.ptr,.struct [17],.struct [17],.other,.int .i32,.slice 26,.struct [3,3,22,22],.struct [3,3,22,22],.slice 78,.slice 3,.struct [25,26,26],.struct [25,26,26],.func,.func,.func,.other,.func,.struct [3,3,22,22],.func,.slice 79,.struct [36,26,26],.struct [36,26,26],.func,.func,.func,.func,.func,.func,.func,.func,.func,.func,.other,.func,.func,.func,.func,.other,.func,.func,.func,.func,.func,.func,.func,.func,.func,.func,.func,.func,.func,.func,.func,.func,.func,.func,.func,.struct [3,3,22,22,36,26,26],.struct [3,3,22,22,36,26,26],.func,.func,.slice 111,.slice 87,.func,.func,.int .u64,.func,.func,.func,.struct [3,3],.struct [3,3],.func,.func,.func,.ptr,.struct [3,3,22,22,36,26,26,22],.struct [3,3,22,22,36,26,26,22],.func,.func,.func,.slice 101,.func,.func,.struct [3,3,3,3],.struct [3,3,3,3],.func,.func,.func,.func,.func,.func,.func,.func,.func,.struct [3,3],.func,.func,.func,.func,.func,.func,.func,.other,.func,.func,.func,.func,.func,.func,.func,.func,.func,.func,.func,.func,.int .u32,.other,.func,.int .u64,.other,.func,.func,.func,.func,.func,.func,.func,.func,.func,.int .i64,.other,.func,.func,.func,.func,.func,.slice 155,.func,.slice 4,.func,.int .u64,.func,.func,.func,.ptr,.func,.func,.ptr,.other,.func,.func,.struct [17,17,17,9],.struct [17,17,17,9],.other,.other,.other,.func,.int .u8,.int .u8,.func,.ptr,.int .i32,.int .i32,.struct [12,12,132,174,5,5,175,176,177,178,179],.struct [12,12,132,174,5,5,175,176,177,178,179]]
def nst:List (TypeId×List (Nat×TypeId)):=[(74,[(0,34),(4,38)]),(75,[(0,34),(4,38)]),(92,[(0,34),(4,38),(7,22)]),(93,[(0,34),(4,38),(7,22)])]
def Aj:Tys:=A21 tab nst
def lends(f:FuncId):Bool:=[18,19,20,27,44,73,76,100].contains f
theorem ty1:Aj.ty 1= .func:=nr rfl
theorem ty2:Aj.ty 2= .int .i64:=nr rfl
theorem ty3:Aj.ty 3= .int .i64:=nr rfl
theorem kn3:Aj.known 3=true:=nr rfl
theorem st3:Aj.isStruct 3=false:=nr rfl
theorem zr3:Aj.zeros 3=[.int .i64 0]:=nr rfl
theorem zo3:Aj.zero1 3= .int .i64 0:=nr rfl
theorem sz3:Aj.size 3=1:=nr rfl
theorem ty4:Aj.ty 4= .bool:=nr rfl
theorem kn4:Aj.known 4=true:=nr rfl
theorem st4:Aj.isStruct 4=false:=nr rfl
theorem zr4:Aj.zeros 4=[.bool false]:=nr rfl
theorem zo4:Aj.zero1 4= .bool false:=nr rfl
theorem sz4:Aj.size 4=1:=nr rfl
theorem ty5:Aj.ty 5= .int .u8:=nr rfl
theorem kn5:Aj.known 5=true:=nr rfl
theorem st5:Aj.isStruct 5=false:=nr rfl
theorem zr5:Aj.zeros 5=[.int .u8 0]:=nr rfl
theorem zo5:Aj.zero1 5= .int .u8 0:=nr rfl
theorem sz5:Aj.size 5=1:=nr rfl
theorem ty6:Aj.ty 6= .int .u8:=nr rfl
theorem ty7:Aj.ty 7= .struct [2,3,4,6]:=nr rfl
theorem ty8:Aj.ty 8= .struct [2,3,4,6]:=nr rfl
theorem ty9:Aj.ty 9= .string:=nr rfl
theorem AX5:Aj.ty 10= .string:=nr rfl
theorem AX6:Aj.ty 11= .string:=nr rfl
theorem AX7:Aj.ty 12= .int .u64:=nr rfl
theorem AX8:Aj.ty 13= .struct [9,12]:=nr rfl
theorem AX9:Aj.ty 14= .struct [9,12]:=nr rfl
theorem AXA:Aj.ty 15= .ptr:=nr rfl
theorem AXB:Aj.ty 16= .ptr:=nr rfl
theorem AXC:Aj.ty 17= .ptr:=nr rfl
theorem AXD:Aj.ty 18= .struct [17]:=nr rfl
theorem AXE:Aj.ty 19= .struct [17]:=nr rfl
theorem AXF:Aj.ty 21= .int .i32:=nr rfl
theorem AD9:Aj.ty 22= .slice 26:=nr rfl
theorem AIW:Aj.known 22=true:=nr rfl
theorem AIX:Aj.isStruct 22=false:=nr rfl
theorem AIY:Aj.zeros 22=[.own 26 []]:=nr rfl
theorem AIZ:Aj.zero1 22= .own 26 []:=nr rfl
theorem AIa:Aj.size 22=1:=nr rfl
theorem AXG:Aj.ty 23= .struct [3,3,22,22]:=nr rfl
theorem ADA:Aj.ty 24= .struct [3,3,22,22]:=nr rfl
theorem AIb:Aj.known 24=true:=nr rfl
theorem AIc:Aj.isStruct 24=true:=nr rfl
theorem AId:Aj.zeros 24=[.int .i64 0,.int .i64 0,.own 26 [],.own 26 []]:=nr rfl
theorem AIe:Aj.nest 24=none:=nr rfl
theorem AIf:Aj.size 24=4:=nr rfl
theorem ADB:Aj.ty 25= .slice 78:=nr rfl
theorem AIg:Aj.known 25=true:=nr rfl
theorem AIh:Aj.isStruct 25=false:=nr rfl
theorem AIi:Aj.zeros 25=[.own 78 []]:=nr rfl
theorem AIj:Aj.zero1 25= .own 78 []:=nr rfl
theorem AIk:Aj.size 25=1:=nr rfl
theorem A7Q:Aj.ty 26= .slice 3:=nr rfl
theorem AIl:Aj.known 26=true:=nr rfl
theorem AIm:Aj.isStruct 26=false:=nr rfl
theorem AIn:Aj.zeros 26=[.own 3 []]:=nr rfl
theorem AIo:Aj.zero1 26= .own 3 []:=nr rfl
theorem AIp:Aj.size 26=1:=nr rfl
theorem AXH:Aj.ty 27= .struct [25,26,26]:=nr rfl
theorem ADC:Aj.ty 28= .struct [25,26,26]:=nr rfl
theorem AIq:Aj.known 28=true:=nr rfl
theorem AIr:Aj.isStruct 28=true:=nr rfl
theorem AIs:Aj.zeros 28=[.own 78 [],.own 3 [],.own 3 []]:=nr rfl
theorem AIt:Aj.nest 28=none:=nr rfl
theorem AIu:Aj.size 28=3:=nr rfl
theorem AXI:Aj.ty 29= .func:=nr rfl
theorem AXJ:Aj.ty 30= .func:=nr rfl
theorem AXK:Aj.ty 31= .func:=nr rfl
theorem AXL:Aj.ty 33= .func:=nr rfl
theorem AIv:Aj.ty 34= .struct [3,3,22,22]:=nr rfl
theorem AIw:Aj.known 34=true:=nr rfl
theorem AIx:Aj.isStruct 34=true:=nr rfl
theorem AIy:Aj.zeros 34=[.int .i64 0,.int .i64 0,.own 26 [],.own 26 []]:=nr rfl
theorem AIz:Aj.nest 34=none:=nr rfl
theorem AJ0:Aj.size 34=4:=nr rfl
theorem AXM:Aj.ty 35= .func:=nr rfl
theorem AJ1:Aj.ty 36= .slice 79:=nr rfl
theorem AJ2:Aj.known 36=true:=nr rfl
theorem AJ3:Aj.isStruct 36=false:=nr rfl
theorem AJ4:Aj.zeros 36=[.own 79 []]:=nr rfl
theorem AJ5:Aj.zero1 36= .own 79 []:=nr rfl
theorem AJ6:Aj.size 36=1:=nr rfl
theorem AXN:Aj.ty 37= .struct [36,26,26]:=nr rfl
theorem AJ7:Aj.ty 38= .struct [36,26,26]:=nr rfl
theorem AJ8:Aj.known 38=true:=nr rfl
theorem AJ9:Aj.isStruct 38=true:=nr rfl
theorem AJA:Aj.zeros 38=[.own 79 [],.own 3 [],.own 3 []]:=nr rfl
theorem AJB:Aj.nest 38=none:=nr rfl
theorem AJC:Aj.size 38=3:=nr rfl
theorem AXO:Aj.ty 39= .func:=nr rfl
theorem AXP:Aj.ty 40= .func:=nr rfl
theorem AXQ:Aj.ty 41= .func:=nr rfl
theorem AXR:Aj.ty 42= .func:=nr rfl
theorem AXS:Aj.ty 43= .func:=nr rfl
theorem AXT:Aj.ty 44= .func:=nr rfl
theorem AXU:Aj.ty 45= .func:=nr rfl
theorem AXV:Aj.ty 46= .func:=nr rfl
theorem AXW:Aj.ty 47= .func:=nr rfl
theorem AXX:Aj.ty 48= .func:=nr rfl
theorem AXY:Aj.ty 50= .func:=nr rfl
theorem AXZ:Aj.ty 51= .func:=nr rfl
theorem AXa:Aj.ty 52= .func:=nr rfl
theorem AXb:Aj.ty 53= .func:=nr rfl
theorem AXc:Aj.ty 55= .func:=nr rfl
theorem AXd:Aj.ty 56= .func:=nr rfl
theorem AXe:Aj.ty 57= .func:=nr rfl
theorem AXf:Aj.ty 58= .func:=nr rfl
theorem AXg:Aj.ty 59= .func:=nr rfl
theorem AXh:Aj.ty 60= .func:=nr rfl
theorem AXi:Aj.ty 61= .func:=nr rfl
theorem AXj:Aj.ty 62= .func:=nr rfl
theorem AXk:Aj.ty 63= .func:=nr rfl
theorem AXl:Aj.ty 64= .func:=nr rfl
theorem AXm:Aj.ty 65= .func:=nr rfl
theorem AXn:Aj.ty 66= .func:=nr rfl
theorem AXo:Aj.ty 67= .func:=nr rfl
theorem AXp:Aj.ty 68= .func:=nr rfl
theorem AXq:Aj.ty 69= .func:=nr rfl
theorem AXr:Aj.ty 70= .func:=nr rfl
theorem AXs:Aj.ty 71= .func:=nr rfl
theorem AXt:Aj.ty 72= .func:=nr rfl
theorem AXu:Aj.ty 73= .func:=nr rfl
theorem AXv:Aj.ty 74= .struct [3,3,22,22,36,26,26]:=nr rfl
theorem AJD:Aj.ty 75= .struct [3,3,22,22,36,26,26]:=nr rfl
theorem AJE:Aj.known 75=true:=nr rfl
theorem AJF:Aj.isStruct 75=true:=nr rfl
theorem AJG:Aj.zeros 75=[.int .i64 0,.int .i64 0,.own 26 [],.own 26 [],.own 79 [],.own 3 [],.own 3 []]:=nr rfl
theorem AJH:Aj.nest 75=some [(0,34),(4,38)]:=nr rfl
theorem A4N:Aj.foff 75 0=some 0:=nr rfl
theorem A4O:Aj.foff 75 1=some 4:=nr rfl
theorem AJI:Aj.size 75=7:=nr rfl
theorem AXw:Aj.ty 76= .func:=nr rfl
theorem AXx:Aj.ty 77= .func:=nr rfl
theorem ADE:Aj.ty 78= .slice 111:=nr rfl
theorem AJJ:Aj.known 78=true:=nr rfl
theorem AJK:Aj.isStruct 78=false:=nr rfl
theorem AJL:Aj.zeros 78=[.own 111 []]:=nr rfl
theorem AJM:Aj.zero1 78= .own 111 []:=nr rfl
theorem AJN:Aj.size 78=1:=nr rfl
theorem AJO:Aj.ty 79= .slice 87:=nr rfl
theorem AJP:Aj.known 79=true:=nr rfl
theorem AJQ:Aj.isStruct 79=false:=nr rfl
theorem AJR:Aj.zeros 79=[.own 87 []]:=nr rfl
theorem AJS:Aj.zero1 79= .own 87 []:=nr rfl
theorem AJT:Aj.size 79=1:=nr rfl
theorem AXy:Aj.ty 80= .func:=nr rfl
theorem AXz:Aj.ty 81= .func:=nr rfl
theorem AJU:Aj.ty 82= .int .u64:=nr rfl
theorem AJV:Aj.known 82=true:=nr rfl
theorem AJW:Aj.isStruct 82=false:=nr rfl
theorem AJX:Aj.zeros 82=[.int .u64 0]:=nr rfl
theorem AJY:Aj.zero1 82= .int .u64 0:=nr rfl
theorem AJZ:Aj.size 82=1:=nr rfl
theorem AY0:Aj.ty 83= .func:=nr rfl
theorem AY1:Aj.ty 84= .func:=nr rfl
theorem AY2:Aj.ty 85= .func:=nr rfl
theorem AY3:Aj.ty 86= .struct [3,3]:=nr rfl
theorem AJa:Aj.ty 87= .struct [3,3]:=nr rfl
theorem AJb:Aj.known 87=true:=nr rfl
theorem AJc:Aj.isStruct 87=true:=nr rfl
theorem AJd:Aj.zeros 87=[.int .i64 0,.int .i64 0]:=nr rfl
theorem AJe:Aj.nest 87=none:=nr rfl
theorem AJf:Aj.size 87=2:=nr rfl
theorem AY4:Aj.ty 88= .func:=nr rfl
theorem AY5:Aj.ty 89= .func:=nr rfl
theorem AJg:Aj.ty 90= .func:=nr rfl
theorem AJh:Aj.known 90=true:=nr rfl
theorem AJi:Aj.isStruct 90=false:=nr rfl
theorem AJj:Aj.zeros 90=[.konst .nilFunc]:=nr rfl
theorem AJk:Aj.zero1 90= .konst .nilFunc:=nr rfl
theorem AJl:Aj.size 90=1:=nr rfl
theorem AJm:Aj.ty 91= .ptr:=nr rfl
theorem AJn:Aj.known 91=true:=nr rfl
theorem AJo:Aj.isStruct 91=false:=nr rfl
theorem AJp:Aj.zeros 91=[.konst (.pointer none)]:=nr rfl
theorem AJq:Aj.zero1 91= .konst (.pointer none):=nr rfl
theorem AJr:Aj.size 91=1:=nr rfl
theorem AY6:Aj.ty 92= .struct [3,3,22,22,36,26,26,22]:=nr rfl
theorem AJs:Aj.ty 93= .struct [3,3,22,22,36,26,26,22]:=nr rfl
theorem AJt:Aj.known 93=true:=nr rfl
theorem AJu:Aj.isStruct 93=true:=nr rfl
theorem AJv:Aj.zeros 93=[.int .i64 0,.int .i64 0,.own 26 [],.own 26 [],.own 79 [],.own 3 [],.own 3 [],.own 26 []]:=nr rfl
theorem AJw:Aj.nest 93=some [(0,34),(4,38),(7,22)]:=nr rfl
theorem A4P:Aj.foff 93 0=some 0:=nr rfl
theorem A4Q:Aj.foff 93 1=some 4:=nr rfl
theorem A4R:Aj.foff 93 2=some 7:=nr rfl
theorem AJx:Aj.size 93=8:=nr rfl
theorem AY7:Aj.ty 94= .func:=nr rfl
theorem AY8:Aj.ty 95= .func:=nr rfl
theorem AY9:Aj.ty 96= .func:=nr rfl
theorem AJy:Aj.ty 97= .slice 101:=nr rfl
theorem AJz:Aj.known 97=true:=nr rfl
theorem AK0:Aj.isStruct 97=false:=nr rfl
theorem AK1:Aj.zeros 97=[.own 101 []]:=nr rfl
theorem AK2:Aj.zero1 97= .own 101 []:=nr rfl
theorem AK3:Aj.size 97=1:=nr rfl
theorem AYA:Aj.ty 98= .func:=nr rfl
theorem AYB:Aj.ty 99= .func:=nr rfl
theorem AUI:Aj.ty 100= .struct [3,3,3,3]:=nr rfl
theorem A8j:Aj.ty 101= .struct [3,3,3,3]:=nr rfl
theorem A8k:Aj.known 101=true:=nr rfl
theorem A8l:Aj.isStruct 101=true:=nr rfl
theorem A8m:Aj.zeros 101=[.int .i64 0,.int .i64 0,.int .i64 0,.int .i64 0]:=nr rfl
theorem A8n:Aj.nest 101=none:=nr rfl
theorem A8o:Aj.size 101=4:=nr rfl
theorem A8p:Aj.ty 102= .func:=nr rfl
theorem A8q:Aj.known 102=true:=nr rfl
theorem A8r:Aj.isStruct 102=false:=nr rfl
theorem A8s:Aj.zeros 102=[.konst .nilFunc]:=nr rfl
theorem A8t:Aj.zero1 102= .konst .nilFunc:=nr rfl
theorem A8u:Aj.size 102=1:=nr rfl
theorem AUJ:Aj.ty 103= .func:=nr rfl
theorem AUK:Aj.ty 104= .func:=nr rfl
theorem A8v:Aj.ty 105= .func:=nr rfl
theorem A8w:Aj.known 105=true:=nr rfl
theorem A8x:Aj.isStruct 105=false:=nr rfl
theorem A8y:Aj.zeros 105=[.konst .nilFunc]:=nr rfl
theorem A8z:Aj.zero1 105= .konst .nilFunc:=nr rfl
theorem A90:Aj.size 105=1:=nr rfl
theorem AUL:Aj.ty 106= .func:=nr rfl
theorem AUM:Aj.ty 107= .func:=nr rfl
theorem AUN:Aj.ty 108= .func:=nr rfl
theorem AUO:Aj.ty 109= .func:=nr rfl
theorem AUP:Aj.ty 110= .func:=nr rfl
theorem A4S:Aj.ty 111= .struct [3,3]:=nr rfl
theorem A91:Aj.known 111=true:=nr rfl
theorem A92:Aj.isStruct 111=true:=nr rfl
theorem A93:Aj.zeros 111=[.int .i64 0,.int .i64 0]:=nr rfl
theorem A94:Aj.nest 111=none:=nr rfl
theorem A95:Aj.size 111=2:=nr rfl
theorem A96:Aj.ty 112= .func:=nr rfl
theorem A97:Aj.known 112=true:=nr rfl
theorem A98:Aj.isStruct 112=false:=nr rfl
theorem A99:Aj.zeros 112=[.konst .nilFunc]:=nr rfl
theorem A9A:Aj.zero1 112= .konst .nilFunc:=nr rfl
theorem A9B:Aj.size 112=1:=nr rfl
theorem AUQ:Aj.ty 113= .func:=nr rfl
theorem AUR:Aj.ty 114= .func:=nr rfl
theorem AUS:Aj.ty 115= .func:=nr rfl
theorem AUT:Aj.ty 116= .func:=nr rfl
theorem AUU:Aj.ty 117= .func:=nr rfl
theorem AUV:Aj.ty 118= .func:=nr rfl
theorem AUW:Aj.ty 120= .func:=nr rfl
theorem AUX:Aj.ty 121= .func:=nr rfl
theorem AUY:Aj.ty 122= .func:=nr rfl
theorem AUZ:Aj.ty 123= .func:=nr rfl
theorem A9C:Aj.ty 124= .func:=nr rfl
theorem A9D:Aj.known 124=true:=nr rfl
theorem A9E:Aj.isStruct 124=false:=nr rfl
theorem A9F:Aj.zeros 124=[.konst .nilFunc]:=nr rfl
theorem A9G:Aj.zero1 124= .konst .nilFunc:=nr rfl
theorem A9H:Aj.size 124=1:=nr rfl
theorem AUa:Aj.ty 125= .func:=nr rfl
theorem AUb:Aj.ty 126= .func:=nr rfl
theorem AUc:Aj.ty 127= .func:=nr rfl
theorem AUd:Aj.ty 128= .func:=nr rfl
theorem AUe:Aj.ty 129= .func:=nr rfl
theorem AUf:Aj.ty 130= .func:=nr rfl
theorem AUg:Aj.ty 131= .func:=nr rfl
theorem A9I:Aj.ty 132= .int .u32:=nr rfl
theorem A9J:Aj.known 132=true:=nr rfl
theorem A9K:Aj.isStruct 132=false:=nr rfl
theorem A9L:Aj.zeros 132=[.int .u32 0]:=nr rfl
theorem A9M:Aj.zero1 132= .int .u32 0:=nr rfl
theorem A9N:Aj.size 132=1:=nr rfl
theorem AUh:Aj.ty 134= .func:=nr rfl
theorem A9O:Aj.ty 135= .int .u64:=nr rfl
theorem A9P:Aj.known 135=true:=nr rfl
theorem A9Q:Aj.isStruct 135=false:=nr rfl
theorem A9R:Aj.zeros 135=[.int .u64 0]:=nr rfl
theorem A9S:Aj.zero1 135= .int .u64 0:=nr rfl
theorem A9T:Aj.size 135=1:=nr rfl
theorem AUi:Aj.ty 137= .func:=nr rfl
theorem AUj:Aj.ty 138= .func:=nr rfl
theorem AUk:Aj.ty 139= .func:=nr rfl
theorem AUl:Aj.ty 140= .func:=nr rfl
theorem A9U:Aj.ty 141= .func:=nr rfl
theorem A9V:Aj.known 141=true:=nr rfl
theorem A9W:Aj.isStruct 141=false:=nr rfl
theorem A9X:Aj.zeros 141=[.konst .nilFunc]:=nr rfl
theorem A9Y:Aj.zero1 141= .konst .nilFunc:=nr rfl
theorem A9Z:Aj.size 141=1:=nr rfl
theorem A9a:Aj.ty 142= .func:=nr rfl
theorem A9b:Aj.known 142=true:=nr rfl
theorem A9c:Aj.isStruct 142=false:=nr rfl
theorem A9d:Aj.zeros 142=[.konst .nilFunc]:=nr rfl
theorem A9e:Aj.zero1 142= .konst .nilFunc:=nr rfl
theorem A9f:Aj.size 142=1:=nr rfl
theorem AUm:Aj.ty 143= .func:=nr rfl
theorem AUn:Aj.ty 144= .func:=nr rfl
theorem AUo:Aj.ty 145= .func:=nr rfl
theorem A9g:Aj.ty 146= .int .i64:=nr rfl
theorem A9h:Aj.known 146=true:=nr rfl
theorem A9i:Aj.isStruct 146=false:=nr rfl
theorem A9j:Aj.zeros 146=[.int .i64 0]:=nr rfl
theorem A9k:Aj.zero1 146= .int .i64 0:=nr rfl
theorem A9l:Aj.size 146=1:=nr rfl
theorem AUp:Aj.ty 148= .func:=nr rfl
theorem AUq:Aj.ty 149= .func:=nr rfl
theorem AUr:Aj.ty 150= .func:=nr rfl
theorem AUs:Aj.ty 151= .func:=nr rfl
theorem AUt:Aj.ty 152= .func:=nr rfl
theorem A9m:Aj.ty 153= .slice 155:=nr rfl
theorem A9n:Aj.known 153=true:=nr rfl
theorem A9o:Aj.isStruct 153=false:=nr rfl
theorem A9p:Aj.zeros 153=[.own 155 []]:=nr rfl
theorem A9q:Aj.zero1 153= .own 155 []:=nr rfl
theorem A9r:Aj.size 153=1:=nr rfl
theorem AUu:Aj.ty 154= .func:=nr rfl
theorem A9s:Aj.ty 155= .slice 4:=nr rfl
theorem A9t:Aj.known 155=true:=nr rfl
theorem A9u:Aj.isStruct 155=false:=nr rfl
theorem A9v:Aj.zeros 155=[.own 4 []]:=nr rfl
theorem A9w:Aj.zero1 155= .own 4 []:=nr rfl
theorem A9x:Aj.size 155=1:=nr rfl
theorem AUv:Aj.ty 156= .func:=nr rfl
theorem A9y:Aj.ty 157= .int .u64:=nr rfl
theorem A9z:Aj.known 157=true:=nr rfl
theorem AA0:Aj.isStruct 157=false:=nr rfl
theorem AA1:Aj.zeros 157=[.int .u64 0]:=nr rfl
theorem AA2:Aj.zero1 157= .int .u64 0:=nr rfl
theorem AA3:Aj.size 157=1:=nr rfl
theorem AUw:Aj.ty 158= .func:=nr rfl
theorem AUx:Aj.ty 159= .func:=nr rfl
theorem AUy:Aj.ty 160= .func:=nr rfl
theorem AA4:Aj.ty 161= .ptr:=nr rfl
theorem AA5:Aj.known 161=true:=nr rfl
theorem AA6:Aj.isStruct 161=false:=nr rfl
theorem AA7:Aj.zeros 161=[.konst (.pointer none)]:=nr rfl
theorem AA8:Aj.zero1 161= .konst (.pointer none):=nr rfl
theorem AA9:Aj.size 161=1:=nr rfl
theorem AUz:Aj.ty 162= .func:=nr rfl
theorem AV0:Aj.ty 163= .func:=nr rfl
theorem AV1:Aj.ty 164= .ptr:=nr rfl
theorem AV2:Aj.ty 166= .func:=nr rfl
theorem AV3:Aj.ty 167= .func:=nr rfl
theorem AV4:Aj.ty 168= .struct [17,17,17,9]:=nr rfl
theorem AV5:Aj.ty 169= .struct [17,17,17,9]:=nr rfl
theorem AV6:Aj.ty 173= .func:=nr rfl
theorem AV7:Aj.ty 174= .int .u8:=nr rfl
theorem AV8:Aj.ty 175= .int .u8:=nr rfl
theorem AV9:Aj.ty 176= .func:=nr rfl
theorem AVA:Aj.ty 177= .ptr:=nr rfl
theorem AVB:Aj.ty 178= .int .i32:=nr rfl
theorem AVC:Aj.ty 179= .int .i32:=nr rfl
theorem AVD:Aj.ty 180= .struct [12,12,132,174,5,5,175,176,177,178,179]:=nr rfl
theorem AVE:Aj.ty 181= .struct [12,12,132,174,5,5,175,176,177,178,179]:=nr rfl
theorem le3:lends 3=false:=nr rfl
theorem le4:lends 4=false:=nr rfl
theorem le5:lends 5=false:=nr rfl
theorem le6:lends 6=false:=nr rfl
theorem le7:lends 7=false:=nr rfl
theorem le8:lends 8=false:=nr rfl
theorem le9:lends 9=false:=nr rfl
theorem AK4:lends 10=false:=nr rfl
theorem AK5:lends 11=false:=nr rfl
theorem AK6:lends 12=false:=nr rfl
theorem AK7:lends 13=false:=nr rfl
theorem AK8:lends 14=false:=nr rfl
theorem AK9:lends 15=false:=nr rfl
theorem AKA:lends 16=false:=nr rfl
theorem AKB:lends 17=false:=nr rfl
theorem AKC:lends 18=true:=nr rfl
theorem AKD:lends 19=true:=nr rfl
theorem AKE:lends 20=true:=nr rfl
theorem AKF:lends 21=false:=nr rfl
theorem AKG:lends 22=false:=nr rfl
theorem AKH:lends 23=false:=nr rfl
theorem AKI:lends 24=false:=nr rfl
theorem AKJ:lends 25=false:=nr rfl
theorem AKK:lends 26=false:=nr rfl
theorem AKL:lends 27=true:=nr rfl
theorem AKM:lends 28=false:=nr rfl
theorem AKN:lends 29=false:=nr rfl
theorem AKO:lends 30=false:=nr rfl
theorem AKP:lends 31=false:=nr rfl
theorem AKQ:lends 32=false:=nr rfl
theorem AKR:lends 33=false:=nr rfl
theorem AKS:lends 34=false:=nr rfl
theorem AKT:lends 35=false:=nr rfl
theorem AKU:lends 36=false:=nr rfl
theorem AKV:lends 37=false:=nr rfl
theorem AKW:lends 38=false:=nr rfl
theorem AKX:lends 39=false:=nr rfl
theorem AKY:lends 40=false:=nr rfl
theorem AKZ:lends 41=false:=nr rfl
theorem AKa:lends 42=false:=nr rfl
theorem AKb:lends 43=false:=nr rfl
theorem AKc:lends 44=true:=nr rfl
theorem AKd:lends 45=false:=nr rfl
theorem AKe:lends 46=false:=nr rfl
theorem AKf:lends 47=false:=nr rfl
theorem AKg:lends 48=false:=nr rfl
theorem AKh:lends 49=false:=nr rfl
theorem AKi:lends 50=false:=nr rfl
theorem AKj:lends 51=false:=nr rfl
theorem AKk:lends 52=false:=nr rfl
theorem AKl:lends 53=false:=nr rfl
theorem AKm:lends 54=false:=nr rfl
theorem AKn:lends 55=false:=nr rfl
theorem AKo:lends 56=false:=nr rfl
theorem AKp:lends 57=false:=nr rfl
theorem AKq:lends 58=false:=nr rfl
theorem AKr:lends 59=false:=nr rfl
theorem AKs:lends 60=false:=nr rfl
theorem AKt:lends 61=false:=nr rfl
theorem AKu:lends 62=false:=nr rfl
theorem AKv:lends 63=false:=nr rfl
theorem AKw:lends 64=false:=nr rfl
theorem AKx:lends 65=false:=nr rfl
theorem AKy:lends 66=false:=nr rfl
theorem AKz:lends 67=false:=nr rfl
theorem AL0:lends 68=false:=nr rfl
theorem AL1:lends 69=false:=nr rfl
theorem AL2:lends 70=false:=nr rfl
theorem AL3:lends 71=false:=nr rfl
theorem AL4:lends 72=false:=nr rfl
theorem AL5:lends 73=true:=nr rfl
theorem AL6:lends 74=false:=nr rfl
theorem AL7:lends 75=false:=nr rfl
theorem AL8:lends 76=true:=nr rfl
theorem AL9:lends 77=false:=nr rfl
theorem ALA:lends 78=false:=nr rfl
theorem ALB:lends 79=false:=nr rfl
theorem ADF:lends 80=false:=nr rfl
theorem ALC:lends 81=false:=nr rfl
theorem ALD:lends 82=false:=nr rfl
theorem ALE:lends 83=false:=nr rfl
theorem ALF:lends 84=false:=nr rfl
theorem ALG:lends 85=false:=nr rfl
theorem ALH:lends 86=false:=nr rfl
theorem ALI:lends 87=false:=nr rfl
theorem ALJ:lends 88=false:=nr rfl
theorem ALK:lends 89=false:=nr rfl
theorem ALM:lends 90=false:=nr rfl
theorem ALN:lends 91=false:=nr rfl
theorem ALO:lends 92=false:=nr rfl
theorem ALP:lends 93=false:=nr rfl
theorem ALQ:lends 94=false:=nr rfl
theorem ALR:lends 95=false:=nr rfl
theorem ALS:lends 96=false:=nr rfl
theorem ALT:lends 97=false:=nr rfl
theorem ADG:lends 98=false:=nr rfl
theorem ALU:lends 99=false:=nr rfl
theorem AAA:lends 100=true:=nr rfl
theorem AAB:lends 101=false:=nr rfl
theorem AAC:lends 102=false:=nr rfl
theorem AAD:lends 103=false:=nr rfl
theorem A4T:lends 104=false:=nr rfl
theorem AAE:lends 105=false:=nr rfl
theorem AAF:lends 106=false:=nr rfl
theorem AAG:lends 107=false:=nr rfl
theorem AAH:lends 108=false:=nr rfl
theorem AAI:lends 109=false:=nr rfl
theorem AAJ:lends 110=false:=nr rfl
theorem AAK:lends 111=false:=nr rfl
theorem AAL:lends 112=false:=nr rfl
theorem AAM:lends 113=false:=nr rfl
theorem AAN:lends 114=false:=nr rfl
theorem AAO:lends 115=false:=nr rfl
theorem AAP:lends 116=false:=nr rfl
theorem AAQ:lends 117=false:=nr rfl
theorem AAR:lends 118=false:=nr rfl
theorem AAS:lends 119=false:=nr rfl
theorem AAT:lends 120=false:=nr rfl
theorem AAU:lends 121=false:=nr rfl
theorem AAV:lends 122=false:=nr rfl
theorem AAW:lends 123=false:=nr rfl
theorem AAX:lends 124=false:=nr rfl
theorem AAY:lends 125=false:=nr rfl
theorem AAZ:lends 126=false:=nr rfl
theorem AAa:lends 127=false:=nr rfl
theorem AAb:lends 128=false:=nr rfl
theorem AAc:lends 129=false:=nr rfl
theorem AAd:lends 130=false:=nr rfl
theorem AAe:lends 131=false:=nr rfl
theorem AAf:lends 132=false:=nr rfl
theorem AAg:lends 133=false:=nr rfl
theorem AAh:lends 134=false:=nr rfl
theorem AAi:lends 135=false:=nr rfl
theorem AAj:lends 136=false:=nr rfl
theorem AAk:lends 137=false:=nr rfl
theorem AAl:lends 138=false:=nr rfl
theorem AAm:lends 139=false:=nr rfl
theorem AAn:lends 140=false:=nr rfl
theorem AAo:lends 141=false:=nr rfl
theorem AAp:lends 142=false:=nr rfl
theorem AAq:lends 143=false:=nr rfl
theorem AAr:lends 144=false:=nr rfl
theorem AAs:lends 145=false:=nr rfl
theorem AAt:lends 146=false:=nr rfl
theorem AAu:lends 147=false:=nr rfl
theorem AAv:lends 148=false:=nr rfl
theorem AAw:lends 149=false:=nr rfl
theorem AAx:lends 150=false:=nr rfl
theorem AAy:lends 151=false:=nr rfl
theorem AAz:lends 152=false:=nr rfl
theorem AB0:lends 153=false:=nr rfl
theorem AB1:lends 154=false:=nr rfl
theorem AB2:lends 155=false:=nr rfl
theorem AB3:lends 156=false:=nr rfl
theorem AB4:lends 157=false:=nr rfl
theorem AB5:lends 158=false:=nr rfl
theorem AB6:lends 159=false:=nr rfl
theorem AB7:lends 160=false:=nr rfl
theorem AB8:lends 161=false:=nr rfl
theorem AB9:lends 162=false:=nr rfl
theorem ABA:lends 163=false:=nr rfl
theorem ABB:lends 164=false:=nr rfl
theorem ABC:lends 165=false:=nr rfl
theorem ABD:lends 166=false:=nr rfl
theorem ABE:lends 167=false:=nr rfl
theorem ABF:lends 168=false:=nr rfl
theorem ABG:lends 169=false:=nr rfl
theorem ABH:lends 170=false:=nr rfl
theorem ABJ:lends 171=false:=nr rfl
theorem ABK:lends 172=false:=nr rfl
theorem ABL:lends 173=false:=nr rfl
theorem ABM:lends 174=false:=nr rfl
theorem ABN:lends 175=false:=nr rfl
theorem ABO:lends 176=false:=nr rfl
theorem ABP:lends 177=false:=nr rfl
theorem ABQ:lends 178=false:=nr rfl
theorem ABR:lends 179=false:=nr rfl
theorem ABS:lends 180=false:=nr rfl
theorem ABT:lends 181=false:=nr rfl
set_option maxRecDepth 100000 in
theorem ADH:CJ Tryz.prog Aj:=ACE (by kernel_rfl)
theorem mixed:Tryz.prog.follows .mixedOrders=true:=by kernel_rfl
noncomputable def Y0:Dv.Sys:={P:=Tryz.prog,T:=Aj,lends:=lends,base:=fun _ _ _=>none}
theorem AQY:Dv.Sys.Ok Y0:=⟨ADH,mixed,fun _ _ _ _ _ h=>by cases h⟩
theorem AQZ(T:Tys)(s:St)(t:TypeId):ev T s t (.const .nilFunc)=some (.konst .nilFunc):=nr rfl
theorem AQa(T:Tys)(s:St)(t:TypeId):ev T s t (.const .nilIface)=some (.konst .nilIface):=nr rfl
theorem AQb(T:Tys)(s:St)(t:TypeId):ev T s t (.const (.pointer none))=some (.konst (.pointer none)):=nr rfl
theorem y0T:Y0.T=Aj:=nr rfl
theorem y0L:Y0.lends=lends:=nr rfl
set_option maxRecDepth 10000 in
set_option linter.defProp false in
def ALV:=
 A7 @y0T (
 A7 @y0L (
 A7 @ty3 (
 A7 @ty4 (
 A7 @ty5 (
 A7 @AD9 (
 A7 @ADA (
 A7 @ADB (
 A7 @A7Q (
 A7 @ADC (
 A7 @AIv (
 A7 @AJ1 (
 A7 @AJ7 (
 A7 @AJD (
 A7 @ADE (
 A7 @AJO (
 A7 @AJU (
 A7 @AJa (
 A7 @AJg (
 A7 @AJm (
 A7 @AJs (
 A7 @AJy (
 A7 @A8j (
 A7 @A8p (
 A7 @A8v (
 A7 @A4S (
 A7 @A96 (
 A7 @A9C (
 A7 @A9I (
 A7 @A9O (
 A7 @A9U (
 A7 @A9a (
 A7 @A9g (
 A7 @A9m (
 A7 @A9s (
 A7 @A9y (
 A7 @AA4 (
 A7 @kn3 (
 A7 @st3 (
 A7 @sz3 (
 A7 @zr3 (
 A7 @kn4 (
 A7 @st4 (
 A7 @sz4 (
 A7 @zr4 (
 A7 @kn5 (
 A7 @st5 (
 A7 @sz5 (
 A7 @zr5 (
 A7 @AIW (
 A7 @AIX (
 A7 @AIa (
 A7 @AIY (
 A7 @AIb (
 A7 @AIc (
 A7 @AIf (
 A7 @AId (
 A7 @AIg (
 A7 @AIh (
 A7 @AIk (
 A7 @AIi (
 A7 @AIl (
 A7 @AIm (
 A7 @AIp (
 A7 @AIn (
 A7 @AIq (
 A7 @AIr (
 A7 @AIu (
 A7 @AIs (
 A7 @AIw (
 A7 @AIx (
 A7 @AJ0 (
 A7 @AIy (
 A7 @AJ2 (
 A7 @AJ3 (
 A7 @AJ6 (
 A7 @AJ4 (
 A7 @AJ8 (
 A7 @AJ9 (
 A7 @AJC (
 A7 @AJA (
 A7 @AJE (
 A7 @AJF (
 A7 @AJI (
 A7 @AJG (
 A7 @AJJ (
 A7 @AJK (
 A7 @AJN (
 A7 @AJL (
 A7 @AJP (
 A7 @AJQ (
 A7 @AJT (
 A7 @AJR (
 A7 @AJV (
 A7 @AJW (
 A7 @AJZ (
 A7 @AJX (
 A7 @AJb (
 A7 @AJc (
 A7 @AJf (
 A7 @AJd (
 A7 @AJh (
 A7 @AJi (
 A7 @AJl (
 A7 @AJj (
 A7 @AJn (
 A7 @AJo (
 A7 @AJr (
 A7 @AJp (
 A7 @AJt (
 A7 @AJu (
 A7 @AJx (
 A7 @AJv (
 A7 @AJz (
 A7 @AK0 (
 A7 @AK3 (
 A7 @AK1 (
 A7 @A8k (
 A7 @A8l (
 A7 @A8o (
 A7 @A8m (
 A7 @A8q (
 A7 @A8r (
 A7 @A8u (
 A7 @A8s (
 A7 @A8w (
 A7 @A8x (
 A7 @A90 (
 A7 @A8y (
 A7 @A91 (
 A7 @A92 (
 A7 @A95 (
 A7 @A93 (
 A7 @A97 (
 A7 @A98 (
 A7 @A9B (
 A7 @A99 (
 A7 @A9D (
 A7 @A9E (
 A7 @A9H (
 A7 @A9F (
 A7 @A9J (
 A7 @A9K (
 A7 @A9N (
 A7 @A9L (
 A7 @A9P (
 A7 @A9Q (
 A7 @A9T (
 A7 @A9R (
 A7 @A9V (
 A7 @A9W (
 A7 @A9Z (
 A7 @A9X (
 A7 @A9b (
 A7 @A9c (
 A7 @A9f (
 A7 @A9d (
 A7 @A9h (
 A7 @A9i (
 A7 @A9l (
 A7 @A9j (
 A7 @A9n (
 A7 @A9o (
 A7 @A9r (
 A7 @A9p (
 A7 @A9t (
 A7 @A9u (
 A7 @A9x (
 A7 @A9v (
 A7 @A9z (
 A7 @AA0 (
 A7 @AA3 (
 A7 @AA1 (
 A7 @AA5 (
 A7 @AA6 (
 A7 @AA9 (
 A7 @AA7 (
 A7 @AIe (
 A7 @AIt (
 A7 @AIz (
 A7 @AJB (
 A7 @AJH (
 A7 @AJe (
 A7 @AJw (
 A7 @A8n (
 A7 @A94 (
 A7 @A4N (
 A7 @A4O (
 A7 @A4P (
 A7 @A4Q (
 A7 @A4R (
 A7 @zo3 (
 A7 @zo4 (
 A7 @zo5 (
 A7 @AIZ (
 A7 @AIj (
 A7 @AIo (
 A7 @AJ5 (
 A7 @AJM (
 A7 @AJS (
 A7 @AJY (
 A7 @AJk (
 A7 @AJq (
 A7 @AK2 (
 A7 @A8t (
 A7 @A8z (
 A7 @A9A (
 A7 @A9G (
 A7 @A9M (
 A7 @A9S (
 A7 @A9Y (
 A7 @A9e (
 A7 @A9k (
 A7 @A9q (
 A7 @A9w (
 A7 @AA2 (
 A7 @AA8 (
 A7 @le3 (
 A7 @le4 (
 A7 @le5 (
 A7 @le6 (
 A7 @le7 (
 A7 @le8 (
 A7 @le9 (
 A7 @AK4 (
 A7 @AK5 (
 A7 @AK6 (
 A7 @AK7 (
 A7 @AK8 (
 A7 @AK9 (
 A7 @AKA (
 A7 @AKB (
 A7 @AKC (
 A7 @AKD (
 A7 @AKE (
 A7 @AKF (
 A7 @AKG (
 A7 @AKH (
 A7 @AKI (
 A7 @AKJ (
 A7 @AKK (
 A7 @AKL (
 A7 @AKM (
 A7 @AKN (
 A7 @AKO (
 A7 @AKP (
 A7 @AKQ (
 A7 @AKR (
 A7 @AKS (
 A7 @AKT (
 A7 @AKU (
 A7 @AKV (
 A7 @AKW (
 A7 @AKX (
 A7 @AKY (
 A7 @AKZ (
 A7 @AKa (
 A7 @AKb (
 A7 @AKc (
 A7 @AKd (
 A7 @AKe (
 A7 @AKf (
 A7 @AKg (
 A7 @AKh (
 A7 @AKi (
 A7 @AKj (
 A7 @AKk (
 A7 @AKl (
 A7 @AKm (
 A7 @AKn (
 A7 @AKo (
 A7 @AKp (
 A7 @AKq (
 A7 @AKr (
 A7 @AKs (
 A7 @AKt (
 A7 @AKu (
 A7 @AKv (
 A7 @AKw (
 A7 @AKx (
 A7 @AKy (
 A7 @AKz (
 A7 @AL0 (
 A7 @AL1 (
 A7 @AL2 (
 A7 @AL3 (
 A7 @AL4 (
 A7 @AL5 (
 A7 @AL6 (
 A7 @AL7 (
 A7 @AL8 (
 A7 @AL9 (
 A7 @ALA (
 A7 @ALB (
 A7 @ADF (
 A7 @ALC (
 A7 @ALD (
 A7 @ALE (
 A7 @ALF (
 A7 @ALG (
 A7 @ALH (
 A7 @ALI (
 A7 @ALJ (
 A7 @ALK (
 A7 @ALM (
 A7 @ALN (
 A7 @ALO (
 A7 @ALP (
 A7 @ALQ (
 A7 @ALR (
 A7 @ALS (
 A7 @ALT (
 A7 @ADG (
 A7 @ALU (
 A7 @AAA (
 A7 @AAB (
 A7 @AAC (
 A7 @AAD (
 A7 @A4T (
 A7 @AAE (
 A7 @AAF (
 A7 @AAG (
 A7 @AAH (
 A7 @AAI (
 A7 @AAJ (
 A7 @AAK (
 A7 @AAL (
 A7 @AAM (
 A7 @AAN (
 A7 @AAO (
 A7 @AAP (
 A7 @AAQ (
 A7 @AAR (
 A7 @AAS (
 A7 @AAT (
 A7 @AAU (
 A7 @AAV (
 A7 @AAW (
 A7 @AAX (
 A7 @AAY (
 A7 @AAZ (
 A7 @AAa (
 A7 @AAb (
 A7 @AAc (
 A7 @AAd (
 A7 @AAe (
 A7 @AAf (
 A7 @AAg (
 A7 @AAh (
 A7 @AAi (
 A7 @AAj (
 A7 @AAk (
 A7 @AAl (
 A7 @AAm (
 A7 @AAn (
 A7 @AAo (
 A7 @AAp (
 A7 @AAq (
 A7 @AAr (
 A7 @AAs (
 A7 @AAt (
 A7 @AAu (
 A7 @AAv (
 A7 @AAw (
 A7 @AAx (
 A7 @AAy (
 A7 @AAz (
 A7 @AB0 (
 A7 @AB1 (
 A7 @AB2 (
 A7 @AB3 (
 A7 @AB4 (
 A7 @AB5 (
 A7 @AB6 (
 A7 @AB7 (
 A7 @AB8 (
 A7 @AB9 (
 A7 @ABA (
 A7 @ABB (
 A7 @ABC (
 A7 @ABD (
 A7 @ABE (
 A7 @ABF (
 A7 @ABG (
 A7 @ABH (
 A7 @ABJ (
 A7 @ABK (
 A7 @ABL (
 A7 @ABM (
 A7 @ABN (
 A7 @ABO (
 A7 @ABP (
 A7 @ABQ (
 A7 @ABR (
 A7 @ABS (@ABT)))))))))))))))))))))))))))))))))))))))))))))))))))))))))))))))))))))))))))))))))))))))))))))))))))))))))))))))))))))))))))))))))))))))))))))))))))))))))))))))))))))))))))))))))))))))))))))))))))))))))))))))))))))))))))))))))))))))))))))))))))))))))))))))))))))))))))))))))))))))))))))))))))))))))))))))))))))))))))))))))))))))))))))))))))))))))))))))))))))))))))))))))))))))))))))))))))))))))))
def k99:SC:= .seq (.ops [oX 2 (.assign (.const (.slice none 0 0))) 26]) (.seq (.seq (.ops [oM 3 0 26,oB 4 .eql 26 (tK 3) (.const (.slice none 0 0)) 26 4]) (.cond (tK 4) (.seq (.ops [oX 2 (.assign (.const (.slice none 0 0))) 26]) .ret) .skip)) (.seq (.ops [oX 5 (.buildSlice 26 0 #[]) 26,oM 6 0 26,oX 7 (.call ⟨(.builtin .append), #[(tK 5),(tK 6)], #[26,26]⟩) 26,oA 2 7 26]) .ret))
theorem A4U:Tryz.f99.body.map (BP lends)=some k99:=by kernel_rfl
theorem ALX:BR Tryz.f99 1=true:=by kernel_rfl
theorem A2H(A:Option Addr)(c:Nat):Y0.call 99 [.konst (.slice A 0 c)] []=some (.own 3 [],[]):=by
 refine AY (Y:=Y0) rfl Tryz.func99 ALX A4U ?_;show BS Y0.env k99 (fin Aj 0 [ResultVar.tmp 2] _) _
 unfold k99
 cases A<;>simp only [↓AJ,BK,ALV,implies_true,CB,V6,Option.isSome_some,↓reduceIte,Nat.reduceEqDiff,Nat.reduceLT,Nat.reduceLeDiff,Nat.reduceAdd,Nat.reduceMul,Nat.reduceMod,Nat.reduceSub,List.contains_cons,List.contains_nil,Nat.reduceBEq,List.getD_cons_zero,List.getD_cons_succ,List.getD_nil,Jw,Qu,List.size_toArray,List.toList_toArray,List.zip_cons_cons,List.zip_nil_left,TI,PO,Xv,VU,List.map_nil,uJ,List.replicate_zero,uK,nK,jT,Xw,List.any_cons,List.any_nil,List.all_nil,V3,Xu,List.getElem?_nil,List.range_zero,beq_self_eq_true,Int.reduceLE,Int.reduceLT,Int.reduceEq,Int.reduceSub,Int.reduceAdd,Int.reduceToNat,Int.reduceNeg,Option.isNone_none,Option.isNone_some]
theorem ADI:Dv.Good Tryz.prog Aj 99 [.sl 3 []] [] (.own 3 []) []:=yt kn3 (fun A c=>Dv.Sys.call_good AQY (A2H A c))
def A4V(f:FuncId)(a l:List D):Option (D×List D):=
 match f,a,l with
 |99,[.sl 3 []],[]=>some (.own 3 [],[])
 |_,_,_=>none
theorem A7R: ∀f a l r outs,A4V f a l=some (r,outs)→Dv.Good Tryz.prog Aj f a l r outs:=by
 intro f a l r outs h;unfold A4V at h
 split at h
 ·simp only [Option.some.injEq,Prod.mk.injEq]at h;obtain⟨rfl,rfl⟩:=h;exact ADI
 ·cases h
theorem A4W: ∀zs:AO,zs.length<4611686018427387904→Dv.Good Tryz.prog Aj 100 [.vw [100000] 0 0] [.own 3 (K9 zs)] (.tup []) [.own 3 (K9 (LH zs))]:=fun zs h=>
 A2F ⟨Tryz.f100,Tryz.func100,rfl,by decide⟩ sz3 (fun blk off cap zs w h1 h2 h3=>Tryz.slices_Sort_int blk off cap zs w h1 h2 h3) (fun p cap w=>Tryz.slices_Sort_int_none p cap w) zs h
theorem zK: ∀zs:AO,zs.length<1099511627776→Dv.Good Tryz.prog Aj 137 [.clo 156 [.cptr [.sl 3 (K9 zs)]]] [] (.own 3 (K9 (LH zs))) []:=fun zs h=>
 wJ ⟨Tryz.f137,Tryz.func137,rfl,by decide⟩ sz3
  (fun p ad cap w h1 h2=>callsIn_wide.1 (Go.Proofs.sv.sorted_in 5 (Cc _) p _ [] (by decide) (by decide) w h1 h2 (.inl ⟨ad,cap,rfl,rfl⟩)))
  (fun p b off cap zs w h0 h1 h2 h3 h4=>callsIn_wide.1 (Go.Proofs.sv.sorted_in 5 (Cc _) p _ zs (by have:maxLen=9223372036854775807:=rfl;omega) (by omega) w h1 h2 (.inr ⟨b,off,cap,rfl,h3,h4⟩))) zs h
noncomputable def Y:Dv.Sys:={P:=Tryz.prog,T:=Aj,lends:=lends,base:=YD (YD A4V (U5 100 3)) (Pe 137 156 3)}
theorem yOk:Dv.Sys.Ok Y:=⟨ADH,mixed,ZO (ZO A7R (jk A4W)) (Zm zK)⟩
theorem A4X:Aj.ty 900013= .other:=nr rfl
theorem yT:Y.T=Aj:=nr rfl
theorem yL:Y.lends=lends:=nr rfl
set_option maxRecDepth 10000 in
set_option linter.defProp false in
def ALY:=
 A7 @A4X (
 A7 @yT (
 A7 @yL (
 A7 @AQZ (
 A7 @AQa (
 A7 @AQb (
 A7 @ty3 (
 A7 @ty4 (
 A7 @ty5 (
 A7 @AD9 (
 A7 @ADA (
 A7 @ADB (
 A7 @A7Q (
 A7 @ADC (
 A7 @AIv (
 A7 @AJ1 (
 A7 @AJ7 (
 A7 @AJD (
 A7 @ADE (
 A7 @AJO (
 A7 @AJU (
 A7 @AJa (
 A7 @AJg (
 A7 @AJm (
 A7 @AJs (
 A7 @AJy (
 A7 @A8j (
 A7 @A8p (
 A7 @A8v (
 A7 @A4S (
 A7 @A96 (
 A7 @A9C (
 A7 @A9I (
 A7 @A9O (
 A7 @A9U (
 A7 @A9a (
 A7 @A9g (
 A7 @A9m (
 A7 @A9s (
 A7 @A9y (
 A7 @AA4 (
 A7 @kn3 (
 A7 @st3 (
 A7 @sz3 (
 A7 @zr3 (
 A7 @kn4 (
 A7 @st4 (
 A7 @sz4 (
 A7 @zr4 (
 A7 @kn5 (
 A7 @st5 (
 A7 @sz5 (
 A7 @zr5 (
 A7 @AIW (
 A7 @AIX (
 A7 @AIa (
 A7 @AIY (
 A7 @AIb (
 A7 @AIc (
 A7 @AIf (
 A7 @AId (
 A7 @AIg (
 A7 @AIh (
 A7 @AIk (
 A7 @AIi (
 A7 @AIl (
 A7 @AIm (
 A7 @AIp (
 A7 @AIn (
 A7 @AIq (
 A7 @AIr (
 A7 @AIu (
 A7 @AIs (
 A7 @AIw (
 A7 @AIx (
 A7 @AJ0 (
 A7 @AIy (
 A7 @AJ2 (
 A7 @AJ3 (
 A7 @AJ6 (
 A7 @AJ4 (
 A7 @AJ8 (
 A7 @AJ9 (
 A7 @AJC (
 A7 @AJA (
 A7 @AJE (
 A7 @AJF (
 A7 @AJI (
 A7 @AJG (
 A7 @AJJ (
 A7 @AJK (
 A7 @AJN (
 A7 @AJL (
 A7 @AJP (
 A7 @AJQ (
 A7 @AJT (
 A7 @AJR (
 A7 @AJV (
 A7 @AJW (
 A7 @AJZ (
 A7 @AJX (
 A7 @AJb (
 A7 @AJc (
 A7 @AJf (
 A7 @AJd (
 A7 @AJh (
 A7 @AJi (
 A7 @AJl (
 A7 @AJj (
 A7 @AJn (
 A7 @AJo (
 A7 @AJr (
 A7 @AJp (
 A7 @AJt (
 A7 @AJu (
 A7 @AJx (
 A7 @AJv (
 A7 @AJz (
 A7 @AK0 (
 A7 @AK3 (
 A7 @AK1 (
 A7 @A8k (
 A7 @A8l (
 A7 @A8o (
 A7 @A8m (
 A7 @A8q (
 A7 @A8r (
 A7 @A8u (
 A7 @A8s (
 A7 @A8w (
 A7 @A8x (
 A7 @A90 (
 A7 @A8y (
 A7 @A91 (
 A7 @A92 (
 A7 @A95 (
 A7 @A93 (
 A7 @A97 (
 A7 @A98 (
 A7 @A9B (
 A7 @A99 (
 A7 @A9D (
 A7 @A9E (
 A7 @A9H (
 A7 @A9F (
 A7 @A9J (
 A7 @A9K (
 A7 @A9N (
 A7 @A9L (
 A7 @A9P (
 A7 @A9Q (
 A7 @A9T (
 A7 @A9R (
 A7 @A9V (
 A7 @A9W (
 A7 @A9Z (
 A7 @A9X (
 A7 @A9b (
 A7 @A9c (
 A7 @A9f (
 A7 @A9d (
 A7 @A9h (
 A7 @A9i (
 A7 @A9l (
 A7 @A9j (
 A7 @A9n (
 A7 @A9o (
 A7 @A9r (
 A7 @A9p (
 A7 @A9t (
 A7 @A9u (
 A7 @A9x (
 A7 @A9v (
 A7 @A9z (
 A7 @AA0 (
 A7 @AA3 (
 A7 @AA1 (
 A7 @AA5 (
 A7 @AA6 (
 A7 @AA9 (
 A7 @AA7 (
 A7 @AIe (
 A7 @AIt (
 A7 @AIz (
 A7 @AJB (
 A7 @AJH (
 A7 @AJe (
 A7 @AJw (
 A7 @A8n (
 A7 @A94 (
 A7 @A4N (
 A7 @A4O (
 A7 @A4P (
 A7 @A4Q (
 A7 @A4R (
 A7 @zo3 (
 A7 @zo4 (
 A7 @zo5 (
 A7 @AIZ (
 A7 @AIj (
 A7 @AIo (
 A7 @AJ5 (
 A7 @AJM (
 A7 @AJS (
 A7 @AJY (
 A7 @AJk (
 A7 @AJq (
 A7 @AK2 (
 A7 @A8t (
 A7 @A8z (
 A7 @A9A (
 A7 @A9G (
 A7 @A9M (
 A7 @A9S (
 A7 @A9Y (
 A7 @A9e (
 A7 @A9k (
 A7 @A9q (
 A7 @A9w (
 A7 @AA2 (
 A7 @AA8 (
 A7 @le3 (
 A7 @le4 (
 A7 @le5 (
 A7 @le6 (
 A7 @le7 (
 A7 @le8 (
 A7 @le9 (
 A7 @AK4 (
 A7 @AK5 (
 A7 @AK6 (
 A7 @AK7 (
 A7 @AK8 (
 A7 @AK9 (
 A7 @AKA (
 A7 @AKB (
 A7 @AKC (
 A7 @AKD (
 A7 @AKE (
 A7 @AKF (
 A7 @AKG (
 A7 @AKH (
 A7 @AKI (
 A7 @AKJ (
 A7 @AKK (
 A7 @AKL (
 A7 @AKM (
 A7 @AKN (
 A7 @AKO (
 A7 @AKP (
 A7 @AKQ (
 A7 @AKR (
 A7 @AKS (
 A7 @AKT (
 A7 @AKU (
 A7 @AKV (
 A7 @AKW (
 A7 @AKX (
 A7 @AKY (
 A7 @AKZ (
 A7 @AKa (
 A7 @AKb (
 A7 @AKc (
 A7 @AKd (
 A7 @AKe (
 A7 @AKf (
 A7 @AKg (
 A7 @AKh (
 A7 @AKi (
 A7 @AKj (
 A7 @AKk (
 A7 @AKl (
 A7 @AKm (
 A7 @AKn (
 A7 @AKo (
 A7 @AKp (
 A7 @AKq (
 A7 @AKr (
 A7 @AKs (
 A7 @AKt (
 A7 @AKu (
 A7 @AKv (
 A7 @AKw (
 A7 @AKx (
 A7 @AKy (
 A7 @AKz (
 A7 @AL0 (
 A7 @AL1 (
 A7 @AL2 (
 A7 @AL3 (
 A7 @AL4 (
 A7 @AL5 (
 A7 @AL6 (
 A7 @AL7 (
 A7 @AL8 (
 A7 @AL9 (
 A7 @ALA (
 A7 @ALB (
 A7 @ADF (
 A7 @ALC (
 A7 @ALD (
 A7 @ALE (
 A7 @ALF (
 A7 @ALG (
 A7 @ALH (
 A7 @ALI (
 A7 @ALJ (
 A7 @ALK (
 A7 @ALM (
 A7 @ALN (
 A7 @ALO (
 A7 @ALP (
 A7 @ALQ (
 A7 @ALR (
 A7 @ALS (
 A7 @ALT (
 A7 @ADG (
 A7 @ALU (
 A7 @AAA (
 A7 @AAB (
 A7 @AAC (
 A7 @AAD (
 A7 @A4T (
 A7 @AAE (
 A7 @AAF (
 A7 @AAG (
 A7 @AAH (
 A7 @AAI (
 A7 @AAJ (
 A7 @AAK (
 A7 @AAL (
 A7 @AAM (
 A7 @AAN (
 A7 @AAO (
 A7 @AAP (
 A7 @AAQ (
 A7 @AAR (
 A7 @AAS (
 A7 @AAT (
 A7 @AAU (
 A7 @AAV (
 A7 @AAW (
 A7 @AAX (
 A7 @AAY (
 A7 @AAZ (
 A7 @AAa (
 A7 @AAb (
 A7 @AAc (
 A7 @AAd (
 A7 @AAe (
 A7 @AAf (
 A7 @AAg (
 A7 @AAh (
 A7 @AAi (
 A7 @AAj (
 A7 @AAk (
 A7 @AAl (
 A7 @AAm (
 A7 @AAn (
 A7 @AAo (
 A7 @AAp (
 A7 @AAq (
 A7 @AAr (
 A7 @AAs (
 A7 @AAt (
 A7 @AAu (
 A7 @AAv (
 A7 @AAw (
 A7 @AAx (
 A7 @AAy (
 A7 @AAz (
 A7 @AB0 (
 A7 @AB1 (
 A7 @AB2 (
 A7 @AB3 (
 A7 @AB4 (
 A7 @AB5 (
 A7 @AB6 (
 A7 @AB7 (
 A7 @AB8 (
 A7 @AB9 (
 A7 @ABA (
 A7 @ABB (
 A7 @ABC (
 A7 @ABD (
 A7 @ABE (
 A7 @ABF (
 A7 @ABG (
 A7 @ABH (
 A7 @ABJ (
 A7 @ABK (
 A7 @ABL (
 A7 @ABM (
 A7 @ABN (
 A7 @ABO (
 A7 @ABP (
 A7 @ABQ (
 A7 @ABR (
 A7 @ABS (@ABT)))))))))))))))))))))))))))))))))))))))))))))))))))))))))))))))))))))))))))))))))))))))))))))))))))))))))))))))))))))))))))))))))))))))))))))))))))))))))))))))))))))))))))))))))))))))))))))))))))))))))))))))))))))))))))))))))))))))))))))))))))))))))))))))))))))))))))))))))))))))))))))))))))))))))))))))))))))))))))))))))))))))))))))))))))))))))))))))))))))))))))))))))))))))))))))))))))))))))))))))
theorem zL(zs:AO)(h:zs.length<1099511627776):Y.call 137 [.clo 156 [.cptr [.sl 3 (AQ (D.int .i64) zs)]]] []=some (.own 3 (AQ (D.int .i64) (LH zs)),[]):=Dv.Sys.call_base ((jl 137 156 3 zs h))
theorem A4Y(zs:AO)(h:zs.length<4611686018427387904):Y.call 100 [.vw [100000] 0 0] [.own 3 (AQ (D.int .i64) zs)]=some (.tup [],[.own 3 (AQ (D.int .i64) (LH zs))]):=Dv.Sys.call_base (wK<|(wH 100 3 zs h))
theorem A4Z(xs:List D)(h:xs.length<1099511627776)(hs:xs.all D6=true)(ho:Av xs=false)(hf:(EH (.own 3 xs)).isSome=true):Y.call 99 [.sl 3 xs] []=some (.own 3 xs,[]):=by
 cases xs with
 |nil=>exact Dv.Sys.call_base rfl
 |cons x xs=>
  refine AY (Y:=Y) rfl Tryz.func99 ALX A4U ?_;show BS Y.env k99 (fin Aj 0 [ResultVar.tmp 2] _) _
  unfold k99;have h0:0+(x::xs).length<1099511627776:=by omega
  simp only [Jw,MM]at h0;simp only [Xw,A0Q]at hs ho;simp only [↓AJ,BK,ALY,implies_true,CB,V6,Option.isSome_some,↓reduceIte,Nat.reduceEqDiff,Nat.reduceLT,Nat.reduceLeDiff,Nat.reduceAdd,Nat.reduceMul,Nat.reduceMod,Nat.reduceSub,List.contains_cons,List.contains_nil,Nat.reduceBEq,List.getD_cons_zero,List.getD_cons_succ,List.getD_nil,Jw,Qu,List.size_toArray,List.toList_toArray,List.zip_cons_cons,List.zip_nil_left,TI,PO,Xv,VU,List.map_nil,uJ,List.replicate_zero,uK,nK,jT,Xw,List.any_cons,List.any_nil,List.all_nil,V3,Xu,List.getElem?_nil,List.range_zero,beq_self_eq_true,Int.reduceLE,Int.reduceLT,Int.reduceEq,Int.reduceSub,Int.reduceAdd,Int.reduceToNat,Int.reduceNeg,MM,h0,hs,ho];simp only [A8g,A0R]at hf;rw [if_pos hf]
set_option linter.defProp false in
def AL:=A7 BK (A7 AIT (A7 xc2 (A7 Cg ALY)))
abbrev BX:AO→D:=fun x=>D.sl 3 (AQ (D.int .i64) x)
abbrev Jp:AO→D:=fun x=>D.own 3 (AQ (D.int .i64) x)
abbrev Ba:Op:= .assign (.const (.bool false))
abbrev Gv:Op:= .assign (.const (.slice none 0 0))
abbrev Cy:Operand:= .const (.bool true)
abbrev RH:Op:= .assign (.const (.int .i64 (-1)))
abbrev LK:Operand:= .const (.bool false)
abbrev wL:Operand:= .const (.int .i64 (-1))
end Go.Proofs.YtiehjihckndgkaaGreat
