/- The types of this seat as data, and the system of its calls. Conditions: none. -/
import Derived.Test.YtclkfhhdikfcpaaRows
import Derived.Test.YtclkfhhdikfcpaaL6
import Derived.Test.YtclkfhhdikfcpaaSv
import Derived.KernelRfl
namespace Go.Proofs.Ytclkfhhdikfcpaa
open Go Dv
set_option linter.unusedSimpArgs false
set_option maxRecDepth 100000
def oo:List Ty:=[.other,.func,.int .i64,.int .i64,.bool,.int .u8,.int .u8,.struct [2,3,4,6],.struct [2,3,4,6],.string,.string,.string,.int .u64,.struct [9,12],.struct [9,12],.ptr,.ptr,.ptr,.struct [17],.struct [17],.other,.int .i32,.slice 26,.struct [3,3,22,22],.struct [3,3,22,22],.func,.slice 3,.other,.func,.struct [3,3,22,22],.func,.func,.func,.func,.func,.func,.other,.func,.func,.slice 121,.struct [39,26,26],.struct [39,26,26],.func,.other,.func,.slice 123,.struct [45,26,26],.struct [45,26,26],.func,.func,.func,.other,.func,.func,.func,.func,.struct [3,26,3,3],.struct [3,26,3,3],.other,.func,.func,.func,.struct [3,26,3,3],.func,.func,.func,.func,.func,.slice 4,.func,.struct [3,3,22,22,3,3,22,22,68,68],.struct [3,3,22,22,3,3,22,22,68,68],.func,.func,.func,.ptr,.struct [3,3,22,22,3,3,22,22,26],.struct [3,3,22,22,3,3,22,22,26],.func,.func,.func,.func,.func,.func,.func,.func,.func,.func,.func,.func,.func,.func,.func,.func,.func,.func,.func,.other,.func,.func,.other,.func,.func,.func,.func,.func,.func,.func,.func,.func,.int .u64,.func,.func,.func,.func,.slice 22,.other,.func,.func,.func,.func,.slice 159,.func,.slice 125,.struct [3,3],.struct [3,3],.func,.func,.func,.func,.func,.func,.func,.func,.func,.slice 137,.struct [3,3,3,3],.struct [3,3,3,3],.func,.func,.func,.func,.func,.func,.map 3 3,.func,.func,.func,.func,.func,.func,.int .u32,.other,.func,.int .u64,.other,.func,.func,.func,.struct [3,3],.func,.func,.map 164 3,.arr 14 3,.arr 14 3,.func,.func,.func,.func,.func,.func,.func,.func,.func,.func,.func,.func,.func,.func,.func,.int .i64,.other,.func,.func,.func,.func,.func,.int .u64,.func,.func,.func,.ptr,.func,.ptr,.other,.func,.func,.struct [17,17,17,9],.struct [17,17,17,9],.other,.other,.other,.func,.int .u8,.int .u8,.func,.ptr,.int .i32,.int .i32,.struct [12,12,151,203,5,5,204,205,206,207,208],.struct [12,12,151,203,5,5,204,205,206,207,208],.func]
def tO:List (TypeId×List (Nat×TypeId)):=[(70,[(0,29),(4,29),(8,68),(9,68)]),(71,[(0,29),(4,29),(8,68),(9,68)]),(76,[(0,29),(4,29),(8,26)]),(77,[(0,29),(4,29),(8,26)]),(163,[(0,3),(1,3),(2,3),(3,3),(4,3),(5,3),(6,3),(7,3),(8,3),(9,3),(10,3),(11,3),(12,3),(13,3)]),(164,[(0,3),(1,3),(2,3),(3,3),(4,3),(5,3),(6,3),(7,3),(8,3),(9,3),(10,3),(11,3),(12,3),(13,3)])]
def Ac:Tys:=j6 oo tO
def lends(f:FuncId):Bool:=[16,17,30,47,49,79,88,120,128,152,213].contains f
theorem ty1:Ac.ty 1= .func:=nr rfl
theorem ty2:Ac.ty 2= .int .i64:=nr rfl
theorem ty3:Ac.ty 3= .int .i64:=nr rfl
theorem kn3:Ac.known 3=true:=nr rfl
theorem st3:Ac.isStruct 3=false:=nr rfl
theorem zr3:Ac.zeros 3=[.int .i64 0]:=nr rfl
theorem zo3:Ac.zero1 3= .int .i64 0:=nr rfl
theorem sz3:Ac.size 3=1:=nr rfl
theorem ty4:Ac.ty 4= .bool:=nr rfl
theorem kn4:Ac.known 4=true:=nr rfl
theorem st4:Ac.isStruct 4=false:=nr rfl
theorem zr4:Ac.zeros 4=[.bool false]:=nr rfl
theorem zo4:Ac.zero1 4= .bool false:=nr rfl
theorem sz4:Ac.size 4=1:=nr rfl
theorem ty5:Ac.ty 5= .int .u8:=nr rfl
theorem kn5:Ac.known 5=true:=nr rfl
theorem st5:Ac.isStruct 5=false:=nr rfl
theorem zr5:Ac.zeros 5=[.int .u8 0]:=nr rfl
theorem zo5:Ac.zero1 5= .int .u8 0:=nr rfl
theorem sz5:Ac.size 5=1:=nr rfl
theorem ty6:Ac.ty 6= .int .u8:=nr rfl
theorem ty7:Ac.ty 7= .struct [2,3,4,6]:=nr rfl
theorem ty8:Ac.ty 8= .struct [2,3,4,6]:=nr rfl
theorem ty9:Ac.ty 9= .string:=nr rfl
theorem AIW:Ac.ty 10= .string:=nr rfl
theorem AIX:Ac.ty 11= .string:=nr rfl
theorem AIY:Ac.ty 12= .int .u64:=nr rfl
theorem AIZ:Ac.ty 13= .struct [9,12]:=nr rfl
theorem AIa:Ac.ty 14= .struct [9,12]:=nr rfl
theorem AIb:Ac.ty 15= .ptr:=nr rfl
theorem AIc:Ac.ty 16= .ptr:=nr rfl
theorem AId:Ac.ty 17= .ptr:=nr rfl
theorem AIe:Ac.ty 18= .struct [17]:=nr rfl
theorem AIf:Ac.ty 19= .struct [17]:=nr rfl
theorem AIg:Ac.ty 21= .int .i32:=nr rfl
theorem A5k:Ac.ty 22= .slice 26:=nr rfl
theorem A5l:Ac.known 22=true:=nr rfl
theorem A5m:Ac.isStruct 22=false:=nr rfl
theorem A5n:Ac.zeros 22=[.own 26 []]:=nr rfl
theorem A5o:Ac.zero1 22= .own 26 []:=nr rfl
theorem A5p:Ac.size 22=1:=nr rfl
theorem AIh:Ac.ty 23= .struct [3,3,22,22]:=nr rfl
theorem A5q:Ac.ty 24= .struct [3,3,22,22]:=nr rfl
theorem A5r:Ac.known 24=true:=nr rfl
theorem A5s:Ac.isStruct 24=true:=nr rfl
theorem A5t:Ac.zeros 24=[.int .i64 0,.int .i64 0,.own 26 [],.own 26 []]:=nr rfl
theorem A5u:Ac.nest 24=none:=nr rfl
theorem A5v:Ac.size 24=4:=nr rfl
theorem AIi:Ac.ty 25= .func:=nr rfl
theorem A1Q:Ac.ty 26= .slice 3:=nr rfl
theorem A1R:Ac.known 26=true:=nr rfl
theorem A5w:Ac.isStruct 26=false:=nr rfl
theorem A5x:Ac.zeros 26=[.own 3 []]:=nr rfl
theorem A5y:Ac.zero1 26= .own 3 []:=nr rfl
theorem A1S:Ac.size 26=1:=nr rfl
theorem AIj:Ac.ty 28= .func:=nr rfl
theorem A5z:Ac.ty 29= .struct [3,3,22,22]:=nr rfl
theorem A60:Ac.known 29=true:=nr rfl
theorem A61:Ac.isStruct 29=true:=nr rfl
theorem A62:Ac.zeros 29=[.int .i64 0,.int .i64 0,.own 26 [],.own 26 []]:=nr rfl
theorem A63:Ac.nest 29=none:=nr rfl
theorem A64:Ac.size 29=4:=nr rfl
theorem AIk:Ac.ty 30= .func:=nr rfl
theorem AIl:Ac.ty 31= .func:=nr rfl
theorem AIm:Ac.ty 32= .func:=nr rfl
theorem AIn:Ac.ty 33= .func:=nr rfl
theorem AIo:Ac.ty 34= .func:=nr rfl
theorem AIp:Ac.ty 35= .func:=nr rfl
theorem AIq:Ac.ty 37= .func:=nr rfl
theorem AIr:Ac.ty 38= .func:=nr rfl
theorem A1T:Ac.ty 39= .slice 121:=nr rfl
theorem A65:Ac.known 39=true:=nr rfl
theorem A66:Ac.isStruct 39=false:=nr rfl
theorem A67:Ac.zeros 39=[.own 121 []]:=nr rfl
theorem A68:Ac.zero1 39= .own 121 []:=nr rfl
theorem A69:Ac.size 39=1:=nr rfl
theorem AIs:Ac.ty 40= .struct [39,26,26]:=nr rfl
theorem A1U:Ac.ty 41= .struct [39,26,26]:=nr rfl
theorem A6A:Ac.known 41=true:=nr rfl
theorem A6B:Ac.isStruct 41=true:=nr rfl
theorem A6C:Ac.zeros 41=[.own 121 [],.own 3 [],.own 3 []]:=nr rfl
theorem A6D:Ac.nest 41=none:=nr rfl
theorem A6E:Ac.size 41=3:=nr rfl
theorem AIt:Ac.ty 42= .func:=nr rfl
theorem AIu:Ac.ty 44= .func:=nr rfl
theorem A6F:Ac.ty 45= .slice 123:=nr rfl
theorem A6G:Ac.known 45=true:=nr rfl
theorem A6H:Ac.isStruct 45=false:=nr rfl
theorem A6I:Ac.zeros 45=[.own 123 []]:=nr rfl
theorem A6J:Ac.zero1 45= .own 123 []:=nr rfl
theorem A6K:Ac.size 45=1:=nr rfl
theorem AIv:Ac.ty 46= .struct [45,26,26]:=nr rfl
theorem A6L:Ac.ty 47= .struct [45,26,26]:=nr rfl
theorem A6M:Ac.known 47=true:=nr rfl
theorem A6N:Ac.isStruct 47=true:=nr rfl
theorem A6O:Ac.zeros 47=[.own 123 [],.own 3 [],.own 3 []]:=nr rfl
theorem A6P:Ac.nest 47=none:=nr rfl
theorem A6Q:Ac.size 47=3:=nr rfl
theorem AIw:Ac.ty 48= .func:=nr rfl
theorem AIx:Ac.ty 49= .func:=nr rfl
theorem AIy:Ac.ty 50= .func:=nr rfl
theorem AIz:Ac.ty 52= .func:=nr rfl
theorem AJ0:Ac.ty 53= .func:=nr rfl
theorem AJ1:Ac.ty 54= .func:=nr rfl
theorem AJ2:Ac.ty 55= .func:=nr rfl
theorem AJ3:Ac.ty 56= .struct [3,26,3,3]:=nr rfl
theorem A6R:Ac.ty 57= .struct [3,26,3,3]:=nr rfl
theorem A6S:Ac.known 57=true:=nr rfl
theorem A6T:Ac.isStruct 57=true:=nr rfl
theorem A6U:Ac.zeros 57=[.int .i64 0,.own 3 [],.int .i64 0,.int .i64 0]:=nr rfl
theorem A6V:Ac.nest 57=none:=nr rfl
theorem A6W:Ac.size 57=4:=nr rfl
theorem AJ4:Ac.ty 59= .func:=nr rfl
theorem AJ5:Ac.ty 60= .func:=nr rfl
theorem AJ6:Ac.ty 61= .func:=nr rfl
theorem A6X:Ac.ty 62= .struct [3,26,3,3]:=nr rfl
theorem A6Y:Ac.known 62=true:=nr rfl
theorem A6Z:Ac.isStruct 62=true:=nr rfl
theorem A6a:Ac.zeros 62=[.int .i64 0,.own 3 [],.int .i64 0,.int .i64 0]:=nr rfl
theorem A6b:Ac.nest 62=none:=nr rfl
theorem A6c:Ac.size 62=4:=nr rfl
theorem AJ7:Ac.ty 63= .func:=nr rfl
theorem AJ8:Ac.ty 64= .func:=nr rfl
theorem AJ9:Ac.ty 65= .func:=nr rfl
theorem AJA:Ac.ty 66= .func:=nr rfl
theorem AJB:Ac.ty 67= .func:=nr rfl
theorem A6d:Ac.ty 68= .slice 4:=nr rfl
theorem A6e:Ac.known 68=true:=nr rfl
theorem A6f:Ac.isStruct 68=false:=nr rfl
theorem A6g:Ac.zeros 68=[.own 4 []]:=nr rfl
theorem A6h:Ac.zero1 68= .own 4 []:=nr rfl
theorem A6i:Ac.size 68=1:=nr rfl
theorem AJC:Ac.ty 69= .func:=nr rfl
theorem AJD:Ac.ty 70= .struct [3,3,22,22,3,3,22,22,68,68]:=nr rfl
theorem A6j:Ac.ty 71= .struct [3,3,22,22,3,3,22,22,68,68]:=nr rfl
theorem A6k:Ac.known 71=true:=nr rfl
theorem A6l:Ac.isStruct 71=true:=nr rfl
theorem A6m:Ac.zeros 71=[.int .i64 0,.int .i64 0,.own 26 [],.own 26 [],.int .i64 0,.int .i64 0,.own 26 [],.own 26 [],.own 4 [],.own 4 []]:=nr rfl
theorem A6n:Ac.nest 71=some [(0,29),(4,29),(8,68),(9,68)]:=nr rfl
theorem mJ:Ac.foff 71 0=some 0:=nr rfl
theorem mK:Ac.foff 71 1=some 4:=nr rfl
theorem mM:Ac.foff 71 2=some 8:=nr rfl
theorem mO:Ac.foff 71 3=some 9:=nr rfl
theorem A6o:Ac.size 71=10:=nr rfl
theorem AJE:Ac.ty 72= .func:=nr rfl
theorem AJF:Ac.ty 73= .func:=nr rfl
theorem AJG:Ac.ty 74= .func:=nr rfl
theorem A6p:Ac.ty 75= .ptr:=nr rfl
theorem A6q:Ac.known 75=true:=nr rfl
theorem A6r:Ac.isStruct 75=false:=nr rfl
theorem A6s:Ac.zeros 75=[.konst (.pointer none)]:=nr rfl
theorem A6t:Ac.zero1 75= .konst (.pointer none):=nr rfl
theorem A6u:Ac.size 75=1:=nr rfl
theorem AJH:Ac.ty 76= .struct [3,3,22,22,3,3,22,22,26]:=nr rfl
theorem A6v:Ac.ty 77= .struct [3,3,22,22,3,3,22,22,26]:=nr rfl
theorem A6w:Ac.known 77=true:=nr rfl
theorem A6x:Ac.isStruct 77=true:=nr rfl
theorem A6y:Ac.zeros 77=[.int .i64 0,.int .i64 0,.own 26 [],.own 26 [],.int .i64 0,.int .i64 0,.own 26 [],.own 26 [],.own 3 []]:=nr rfl
theorem A6z:Ac.nest 77=some [(0,29),(4,29),(8,26)]:=nr rfl
theorem mP:Ac.foff 77 0=some 0:=nr rfl
theorem mQ:Ac.foff 77 1=some 4:=nr rfl
theorem mR:Ac.foff 77 2=some 8:=nr rfl
theorem A70:Ac.size 77=9:=nr rfl
theorem AJI:Ac.ty 78= .func:=nr rfl
theorem AJJ:Ac.ty 79= .func:=nr rfl
theorem AJK:Ac.ty 80= .func:=nr rfl
theorem AJL:Ac.ty 81= .func:=nr rfl
theorem AJM:Ac.ty 82= .func:=nr rfl
theorem AJN:Ac.ty 83= .func:=nr rfl
theorem AJO:Ac.ty 84= .func:=nr rfl
theorem AJP:Ac.ty 85= .func:=nr rfl
theorem AJQ:Ac.ty 86= .func:=nr rfl
theorem A71:Ac.ty 87= .func:=nr rfl
theorem A72:Ac.known 87=true:=nr rfl
theorem A73:Ac.isStruct 87=false:=nr rfl
theorem A74:Ac.zeros 87=[.konst .nilFunc]:=nr rfl
theorem A75:Ac.zero1 87= .konst .nilFunc:=nr rfl
theorem A76:Ac.size 87=1:=nr rfl
theorem AJR:Ac.ty 88= .func:=nr rfl
theorem AJS:Ac.ty 89= .func:=nr rfl
theorem AJT:Ac.ty 90= .func:=nr rfl
theorem AJU:Ac.ty 91= .func:=nr rfl
theorem AJV:Ac.ty 92= .func:=nr rfl
theorem AJW:Ac.ty 93= .func:=nr rfl
theorem AJX:Ac.ty 94= .func:=nr rfl
theorem AJY:Ac.ty 95= .func:=nr rfl
theorem A77:Ac.ty 96= .func:=nr rfl
theorem A78:Ac.known 96=true:=nr rfl
theorem A79:Ac.isStruct 96=false:=nr rfl
theorem A7A:Ac.zeros 96=[.konst .nilFunc]:=nr rfl
theorem A7B:Ac.zero1 96= .konst .nilFunc:=nr rfl
theorem A7C:Ac.size 96=1:=nr rfl
theorem AJZ:Ac.ty 98= .func:=nr rfl
theorem AJa:Ac.ty 99= .func:=nr rfl
theorem AFi:Ac.ty 101= .func:=nr rfl
theorem AFj:Ac.ty 102= .func:=nr rfl
theorem AFk:Ac.ty 103= .func:=nr rfl
theorem AFl:Ac.ty 104= .func:=nr rfl
theorem AFm:Ac.ty 105= .func:=nr rfl
theorem AFn:Ac.ty 106= .func:=nr rfl
theorem AFo:Ac.ty 107= .func:=nr rfl
theorem AFp:Ac.ty 108= .func:=nr rfl
theorem AFq:Ac.ty 109= .func:=nr rfl
theorem tZ:Ac.ty 110= .int .u64:=nr rfl
theorem tq:Ac.known 110=true:=nr rfl
theorem tu:Ac.isStruct 110=false:=nr rfl
theorem u6:Ac.zeros 110=[.int .u64 0]:=nr rfl
theorem u7:Ac.zero1 110= .int .u64 0:=nr rfl
theorem uA:Ac.size 110=1:=nr rfl
theorem AFr:Ac.ty 111= .func:=nr rfl
theorem AFs:Ac.ty 112= .func:=nr rfl
theorem AFt:Ac.ty 113= .func:=nr rfl
theorem AFu:Ac.ty 114= .func:=nr rfl
theorem uB:Ac.ty 115= .slice 22:=nr rfl
theorem uC:Ac.known 115=true:=nr rfl
theorem uD:Ac.isStruct 115=false:=nr rfl
theorem uE:Ac.zeros 115=[.own 22 []]:=nr rfl
theorem uF:Ac.zero1 115= .own 22 []:=nr rfl
theorem uG:Ac.size 115=1:=nr rfl
theorem AFv:Ac.ty 117= .func:=nr rfl
theorem AFw:Ac.ty 118= .func:=nr rfl
theorem AFx:Ac.ty 119= .func:=nr rfl
theorem AFy:Ac.ty 120= .func:=nr rfl
theorem mU:Ac.ty 121= .slice 159:=nr rfl
theorem uH:Ac.known 121=true:=nr rfl
theorem uI:Ac.isStruct 121=false:=nr rfl
theorem uJ:Ac.zeros 121=[.own 159 []]:=nr rfl
theorem uK:Ac.zero1 121= .own 159 []:=nr rfl
theorem uL:Ac.size 121=1:=nr rfl
theorem AFz:Ac.ty 122= .func:=nr rfl
theorem uM:Ac.ty 123= .slice 125:=nr rfl
theorem uN:Ac.known 123=true:=nr rfl
theorem uO:Ac.isStruct 123=false:=nr rfl
theorem uP:Ac.zeros 123=[.own 125 []]:=nr rfl
theorem uQ:Ac.zero1 123= .own 125 []:=nr rfl
theorem uR:Ac.size 123=1:=nr rfl
theorem AG0:Ac.ty 124= .struct [3,3]:=nr rfl
theorem uS:Ac.ty 125= .struct [3,3]:=nr rfl
theorem uT:Ac.known 125=true:=nr rfl
theorem uU:Ac.isStruct 125=true:=nr rfl
theorem uV:Ac.zeros 125=[.int .i64 0,.int .i64 0]:=nr rfl
theorem uW:Ac.nest 125=none:=nr rfl
theorem uX:Ac.size 125=2:=nr rfl
theorem AG1:Ac.ty 126= .func:=nr rfl
theorem AG2:Ac.ty 127= .func:=nr rfl
theorem AG3:Ac.ty 128= .func:=nr rfl
theorem AG4:Ac.ty 129= .func:=nr rfl
theorem AG5:Ac.ty 130= .func:=nr rfl
theorem uY:Ac.ty 131= .func:=nr rfl
theorem uZ:Ac.known 131=true:=nr rfl
theorem uf:Ac.isStruct 131=false:=nr rfl
theorem ug:Ac.zeros 131=[.konst .nilFunc]:=nr rfl
theorem uh:Ac.zero1 131= .konst .nilFunc:=nr rfl
theorem uj:Ac.size 131=1:=nr rfl
theorem uk:Ac.ty 132= .func:=nr rfl
theorem ul:Ac.known 132=true:=nr rfl
theorem um:Ac.isStruct 132=false:=nr rfl
theorem uo:Ac.zeros 132=[.konst .nilFunc]:=nr rfl
theorem uq:Ac.zero1 132= .konst .nilFunc:=nr rfl
theorem ut:Ac.size 132=1:=nr rfl
theorem AG6:Ac.ty 133= .func:=nr rfl
theorem AG7:Ac.ty 134= .func:=nr rfl
theorem uu:Ac.ty 135= .slice 137:=nr rfl
theorem uw:Ac.known 135=true:=nr rfl
theorem uy:Ac.isStruct 135=false:=nr rfl
theorem uz:Ac.zeros 135=[.own 137 []]:=nr rfl
theorem vB:Ac.zero1 135= .own 137 []:=nr rfl
theorem vC:Ac.size 135=1:=nr rfl
theorem AG8:Ac.ty 136= .struct [3,3,3,3]:=nr rfl
theorem vD:Ac.ty 137= .struct [3,3,3,3]:=nr rfl
theorem vE:Ac.known 137=true:=nr rfl
theorem vF:Ac.isStruct 137=true:=nr rfl
theorem vG:Ac.zeros 137=[.int .i64 0,.int .i64 0,.int .i64 0,.int .i64 0]:=nr rfl
theorem vH:Ac.nest 137=none:=nr rfl
theorem vI:Ac.size 137=4:=nr rfl
theorem AG9:Ac.ty 138= .func:=nr rfl
theorem vJ:Ac.ty 139= .func:=nr rfl
theorem vK:Ac.known 139=true:=nr rfl
theorem vL:Ac.isStruct 139=false:=nr rfl
theorem vM:Ac.zeros 139=[.konst .nilFunc]:=nr rfl
theorem vN:Ac.zero1 139= .konst .nilFunc:=nr rfl
theorem vO:Ac.size 139=1:=nr rfl
theorem AGA:Ac.ty 140= .func:=nr rfl
theorem AGB:Ac.ty 141= .func:=nr rfl
theorem AGC:Ac.ty 142= .func:=nr rfl
theorem AGD:Ac.ty 143= .func:=nr rfl
theorem vP:Ac.ty 144= .map 3 3:=nr rfl
theorem AGE:Ac.ty 145= .func:=nr rfl
theorem AGF:Ac.ty 146= .func:=nr rfl
theorem AGG:Ac.ty 147= .func:=nr rfl
theorem vQ:Ac.ty 148= .func:=nr rfl
theorem vR:Ac.known 148=true:=nr rfl
theorem vS:Ac.isStruct 148=false:=nr rfl
theorem vT:Ac.zeros 148=[.konst .nilFunc]:=nr rfl
theorem vU:Ac.zero1 148= .konst .nilFunc:=nr rfl
theorem vV:Ac.size 148=1:=nr rfl
theorem AGH:Ac.ty 149= .func:=nr rfl
theorem AGI:Ac.ty 150= .func:=nr rfl
theorem vW:Ac.ty 151= .int .u32:=nr rfl
theorem vX:Ac.known 151=true:=nr rfl
theorem vY:Ac.isStruct 151=false:=nr rfl
theorem vZ:Ac.zeros 151=[.int .u32 0]:=nr rfl
theorem vg:Ac.zero1 151= .int .u32 0:=nr rfl
theorem vk:Ac.size 151=1:=nr rfl
theorem AGJ:Ac.ty 153= .func:=nr rfl
theorem vo:Ac.ty 154= .int .u64:=nr rfl
theorem vz:Ac.known 154=true:=nr rfl
theorem w9:Ac.isStruct 154=false:=nr rfl
theorem wB:Ac.zeros 154=[.int .u64 0]:=nr rfl
theorem wC:Ac.zero1 154= .int .u64 0:=nr rfl
theorem wD:Ac.size 154=1:=nr rfl
theorem AGK:Ac.ty 156= .func:=nr rfl
theorem AGL:Ac.ty 157= .func:=nr rfl
theorem AGM:Ac.ty 158= .func:=nr rfl
theorem mV:Ac.ty 159= .struct [3,3]:=nr rfl
theorem wE:Ac.known 159=true:=nr rfl
theorem wF:Ac.isStruct 159=true:=nr rfl
theorem wG:Ac.zeros 159=[.int .i64 0,.int .i64 0]:=nr rfl
theorem wH:Ac.nest 159=none:=nr rfl
theorem wI:Ac.size 159=2:=nr rfl
theorem AGN:Ac.ty 160= .func:=nr rfl
theorem AGO:Ac.ty 161= .func:=nr rfl
theorem wJ:Ac.ty 162= .map 164 3:=nr rfl
theorem AGP:Ac.ty 163= .arr 14 3:=nr rfl
theorem wK:Ac.ty 164= .arr 14 3:=nr rfl
theorem wL:Ac.known 164=true:=nr rfl
theorem wM:Ac.isStruct 164=true:=nr rfl
theorem wN:Ac.zeros 164=[.int .i64 0,.int .i64 0,.int .i64 0,.int .i64 0,.int .i64 0,.int .i64 0,.int .i64 0,.int .i64 0,.int .i64 0,.int .i64 0,.int .i64 0,.int .i64 0,.int .i64 0,.int .i64 0]:=nr rfl
theorem wO:Ac.nest 164=some [(0,3),(1,3),(2,3),(3,3),(4,3),(5,3),(6,3),(7,3),(8,3),(9,3),(10,3),(11,3),(12,3),(13,3)]:=nr rfl
theorem wP:Ac.size 164=14:=nr rfl
theorem AGQ:Ac.ty 165= .func:=nr rfl
theorem AGR:Ac.ty 166= .func:=nr rfl
theorem wQ:Ac.ty 167= .func:=nr rfl
theorem wR:Ac.known 167=true:=nr rfl
theorem wS:Ac.isStruct 167=false:=nr rfl
theorem wT:Ac.zeros 167=[.konst .nilFunc]:=nr rfl
theorem wU:Ac.zero1 167= .konst .nilFunc:=nr rfl
theorem wV:Ac.size 167=1:=nr rfl
theorem AGS:Ac.ty 168= .func:=nr rfl
theorem AGT:Ac.ty 169= .func:=nr rfl
theorem AGU:Ac.ty 170= .func:=nr rfl
theorem AGV:Ac.ty 171= .func:=nr rfl
theorem AGW:Ac.ty 172= .func:=nr rfl
theorem AGX:Ac.ty 173= .func:=nr rfl
theorem AGY:Ac.ty 174= .func:=nr rfl
theorem AGZ:Ac.ty 175= .func:=nr rfl
theorem AGa:Ac.ty 176= .func:=nr rfl
theorem AGb:Ac.ty 177= .func:=nr rfl
theorem AGc:Ac.ty 178= .func:=nr rfl
theorem AGd:Ac.ty 179= .func:=nr rfl
theorem wW:Ac.ty 180= .int .i64:=nr rfl
theorem wX:Ac.known 180=true:=nr rfl
theorem wY:Ac.isStruct 180=false:=nr rfl
theorem wZ:Ac.zeros 180=[.int .i64 0]:=nr rfl
theorem wh:Ac.zero1 180= .int .i64 0:=nr rfl
theorem wm:Ac.size 180=1:=nr rfl
theorem AGe:Ac.ty 182= .func:=nr rfl
theorem AGf:Ac.ty 183= .func:=nr rfl
theorem AGg:Ac.ty 184= .func:=nr rfl
theorem AGh:Ac.ty 185= .func:=nr rfl
theorem AGi:Ac.ty 186= .func:=nr rfl
theorem wo:Ac.ty 187= .int .u64:=nr rfl
theorem wu:Ac.known 187=true:=nr rfl
theorem ww:Ac.isStruct 187=false:=nr rfl
theorem wy:Ac.zeros 187=[.int .u64 0]:=nr rfl
theorem wz:Ac.zero1 187= .int .u64 0:=nr rfl
theorem x8:Ac.size 187=1:=nr rfl
theorem AGj:Ac.ty 188= .func:=nr rfl
theorem AGk:Ac.ty 189= .func:=nr rfl
theorem AGl:Ac.ty 190= .func:=nr rfl
theorem x9:Ac.ty 191= .ptr:=nr rfl
theorem xA:Ac.known 191=true:=nr rfl
theorem xB:Ac.isStruct 191=false:=nr rfl
theorem xC:Ac.zeros 191=[.konst (.pointer none)]:=nr rfl
theorem xD:Ac.zero1 191= .konst (.pointer none):=nr rfl
theorem xE:Ac.size 191=1:=nr rfl
theorem AGm:Ac.ty 192= .func:=nr rfl
theorem AGn:Ac.ty 193= .ptr:=nr rfl
theorem AGo:Ac.ty 195= .func:=nr rfl
theorem AGp:Ac.ty 196= .func:=nr rfl
theorem AGq:Ac.ty 197= .struct [17,17,17,9]:=nr rfl
theorem AGr:Ac.ty 198= .struct [17,17,17,9]:=nr rfl
theorem AGs:Ac.ty 202= .func:=nr rfl
theorem AGt:Ac.ty 203= .int .u8:=nr rfl
theorem AGu:Ac.ty 204= .int .u8:=nr rfl
theorem AGv:Ac.ty 205= .func:=nr rfl
theorem AGw:Ac.ty 206= .ptr:=nr rfl
theorem AGx:Ac.ty 207= .int .i32:=nr rfl
theorem AGy:Ac.ty 208= .int .i32:=nr rfl
theorem AGz:Ac.ty 209= .struct [12,12,151,203,5,5,204,205,206,207,208]:=nr rfl
theorem AH0:Ac.ty 210= .struct [12,12,151,203,5,5,204,205,206,207,208]:=nr rfl
theorem AH1:Ac.ty 211= .func:=nr rfl
theorem le3:lends 3=false:=nr rfl
theorem le4:lends 4=false:=nr rfl
theorem le5:lends 5=false:=nr rfl
theorem le6:lends 6=false:=nr rfl
theorem le7:lends 7=false:=nr rfl
theorem le8:lends 8=false:=nr rfl
theorem le9:lends 9=false:=nr rfl
theorem A7D:lends 10=false:=nr rfl
theorem A7E:lends 11=false:=nr rfl
theorem A7F:lends 12=false:=nr rfl
theorem A7G:lends 13=false:=nr rfl
theorem A7H:lends 14=false:=nr rfl
theorem A7I:lends 15=false:=nr rfl
theorem A7J:lends 16=true:=nr rfl
theorem A7K:lends 17=true:=nr rfl
theorem A7L:lends 18=false:=nr rfl
theorem A7M:lends 19=false:=nr rfl
theorem A7N:lends 20=false:=nr rfl
theorem A7O:lends 21=false:=nr rfl
theorem A7P:lends 22=false:=nr rfl
theorem A7Q:lends 23=false:=nr rfl
theorem A7R:lends 24=false:=nr rfl
theorem A7S:lends 25=false:=nr rfl
theorem A7T:lends 26=false:=nr rfl
theorem A7U:lends 27=false:=nr rfl
theorem A7V:lends 28=false:=nr rfl
theorem A7W:lends 29=false:=nr rfl
theorem A7X:lends 30=true:=nr rfl
theorem A7Y:lends 31=false:=nr rfl
theorem A7Z:lends 32=false:=nr rfl
theorem A7a:lends 33=false:=nr rfl
theorem A7b:lends 34=false:=nr rfl
theorem A7c:lends 35=false:=nr rfl
theorem A7d:lends 36=false:=nr rfl
theorem A7e:lends 37=false:=nr rfl
theorem A7f:lends 38=false:=nr rfl
theorem A7g:lends 39=false:=nr rfl
theorem A7h:lends 40=false:=nr rfl
theorem A7i:lends 41=false:=nr rfl
theorem A7j:lends 42=false:=nr rfl
theorem A7k:lends 43=false:=nr rfl
theorem A7l:lends 44=false:=nr rfl
theorem A7m:lends 45=false:=nr rfl
theorem A7n:lends 46=false:=nr rfl
theorem A7o:lends 47=true:=nr rfl
theorem A7p:lends 48=false:=nr rfl
theorem A7q:lends 49=true:=nr rfl
theorem A7r:lends 50=false:=nr rfl
theorem A7s:lends 51=false:=nr rfl
theorem A7t:lends 52=false:=nr rfl
theorem A7u:lends 53=false:=nr rfl
theorem A7v:lends 54=false:=nr rfl
theorem A7w:lends 55=false:=nr rfl
theorem A7x:lends 56=false:=nr rfl
theorem A7y:lends 57=false:=nr rfl
theorem A7z:lends 58=false:=nr rfl
theorem A80:lends 59=false:=nr rfl
theorem A81:lends 60=false:=nr rfl
theorem A82:lends 61=false:=nr rfl
theorem A83:lends 62=false:=nr rfl
theorem A84:lends 63=false:=nr rfl
theorem A85:lends 64=false:=nr rfl
theorem A86:lends 65=false:=nr rfl
theorem A87:lends 66=false:=nr rfl
theorem A88:lends 67=false:=nr rfl
theorem A89:lends 68=false:=nr rfl
theorem A8A:lends 69=false:=nr rfl
theorem A8B:lends 70=false:=nr rfl
theorem A8C:lends 71=false:=nr rfl
theorem A8D:lends 72=false:=nr rfl
theorem A8E:lends 73=false:=nr rfl
theorem A8F:lends 74=false:=nr rfl
theorem A8G:lends 75=false:=nr rfl
theorem A1V:lends 76=false:=nr rfl
theorem A8H:lends 77=false:=nr rfl
theorem A8I:lends 78=false:=nr rfl
theorem A8J:lends 79=true:=nr rfl
theorem A8K:lends 80=false:=nr rfl
theorem A8L:lends 81=false:=nr rfl
theorem A8M:lends 82=false:=nr rfl
theorem A8N:lends 83=false:=nr rfl
theorem A8O:lends 84=false:=nr rfl
theorem A8P:lends 85=false:=nr rfl
theorem A8Q:lends 86=false:=nr rfl
theorem A8R:lends 87=false:=nr rfl
theorem A8S:lends 88=true:=nr rfl
theorem A8T:lends 89=false:=nr rfl
theorem A8U:lends 90=false:=nr rfl
theorem A8V:lends 91=false:=nr rfl
theorem A8W:lends 92=false:=nr rfl
theorem A8X:lends 93=false:=nr rfl
theorem A8Y:lends 94=false:=nr rfl
theorem A8Z:lends 95=false:=nr rfl
theorem A8a:lends 96=false:=nr rfl
theorem A8b:lends 97=false:=nr rfl
theorem A8c:lends 98=false:=nr rfl
theorem A8d:lends 99=false:=nr rfl
theorem xF:lends 100=false:=nr rfl
theorem xG:lends 101=false:=nr rfl
theorem xH:lends 102=false:=nr rfl
theorem xI:lends 103=false:=nr rfl
theorem xJ:lends 104=false:=nr rfl
theorem xK:lends 105=false:=nr rfl
theorem xL:lends 106=false:=nr rfl
theorem xM:lends 107=false:=nr rfl
theorem xN:lends 108=false:=nr rfl
theorem xO:lends 109=false:=nr rfl
theorem xP:lends 110=false:=nr rfl
theorem xQ:lends 111=false:=nr rfl
theorem xR:lends 112=false:=nr rfl
theorem xS:lends 113=false:=nr rfl
theorem xU:lends 114=false:=nr rfl
theorem xV:lends 115=false:=nr rfl
theorem xW:lends 116=false:=nr rfl
theorem xX:lends 117=false:=nr rfl
theorem xY:lends 118=false:=nr rfl
theorem mW:lends 119=false:=nr rfl
theorem xZ:lends 120=true:=nr rfl
theorem xc:lends 121=false:=nr rfl
theorem xe:lends 122=false:=nr rfl
theorem xf:lends 123=false:=nr rfl
theorem xg:lends 124=false:=nr rfl
theorem xh:lends 125=false:=nr rfl
theorem xk:lends 126=false:=nr rfl
theorem xm:lends 127=false:=nr rfl
theorem xn:lends 128=true:=nr rfl
theorem xq:lends 129=false:=nr rfl
theorem xu:lends 130=false:=nr rfl
theorem xw:lends 131=false:=nr rfl
theorem xx:lends 132=false:=nr rfl
theorem xy:lends 133=false:=nr rfl
theorem xz:lends 134=false:=nr rfl
theorem y5:lends 135=false:=nr rfl
theorem y7:lends 136=false:=nr rfl
theorem y8:lends 137=false:=nr rfl
theorem y9:lends 138=false:=nr rfl
theorem yA:lends 139=false:=nr rfl
theorem yB:lends 140=false:=nr rfl
theorem yC:lends 141=false:=nr rfl
theorem yD:lends 142=false:=nr rfl
theorem yE:lends 143=false:=nr rfl
theorem yF:lends 144=false:=nr rfl
theorem yG:lends 145=false:=nr rfl
theorem yH:lends 146=false:=nr rfl
theorem yI:lends 147=false:=nr rfl
theorem yJ:lends 148=false:=nr rfl
theorem yK:lends 149=false:=nr rfl
theorem yM:lends 150=false:=nr rfl
theorem yN:lends 151=false:=nr rfl
theorem yO:lends 152=true:=nr rfl
theorem yP:lends 153=false:=nr rfl
theorem yQ:lends 154=false:=nr rfl
theorem yR:lends 155=false:=nr rfl
theorem yS:lends 156=false:=nr rfl
theorem yU:lends 157=false:=nr rfl
theorem yV:lends 158=false:=nr rfl
theorem yX:lends 159=false:=nr rfl
theorem yY:lends 160=false:=nr rfl
theorem yZ:lends 161=false:=nr rfl
theorem yc:lends 162=false:=nr rfl
theorem yf:lends 163=false:=nr rfl
theorem yg:lends 164=false:=nr rfl
theorem yh:lends 165=false:=nr rfl
theorem yj:lends 166=false:=nr rfl
theorem yl:lends 167=false:=nr rfl
theorem ym:lends 168=false:=nr rfl
theorem yn:lends 169=false:=nr rfl
theorem mX:lends 170=false:=nr rfl
theorem yo:lends 171=false:=nr rfl
theorem yt:lends 172=false:=nr rfl
theorem yu:lends 173=false:=nr rfl
theorem yw:lends 174=false:=nr rfl
theorem yx:lends 175=false:=nr rfl
theorem yz:lends 176=false:=nr rfl
theorem z8:lends 177=false:=nr rfl
theorem zA:lends 178=false:=nr rfl
theorem zC:lends 179=false:=nr rfl
theorem zD:lends 180=false:=nr rfl
theorem zF:lends 181=false:=nr rfl
theorem zG:lends 182=false:=nr rfl
theorem zH:lends 183=false:=nr rfl
theorem zI:lends 184=false:=nr rfl
theorem zJ:lends 185=false:=nr rfl
theorem zK:lends 186=false:=nr rfl
theorem zL:lends 187=false:=nr rfl
theorem zM:lends 188=false:=nr rfl
theorem zN:lends 189=false:=nr rfl
theorem zO:lends 190=false:=nr rfl
theorem zP:lends 191=false:=nr rfl
theorem zQ:lends 192=false:=nr rfl
theorem zR:lends 193=false:=nr rfl
theorem zS:lends 194=false:=nr rfl
theorem zT:lends 195=false:=nr rfl
theorem zU:lends 196=false:=nr rfl
theorem zV:lends 197=false:=nr rfl
theorem zW:lends 198=false:=nr rfl
theorem zX:lends 199=false:=nr rfl
theorem zY:lends 200=false:=nr rfl
theorem zZ:lends 201=false:=nr rfl
theorem za:lends 202=false:=nr rfl
theorem zb:lends 203=false:=nr rfl
theorem ze:lends 204=false:=nr rfl
theorem zf:lends 205=false:=nr rfl
theorem zg:lends 206=false:=nr rfl
theorem zh:lends 207=false:=nr rfl
theorem zi:lends 208=false:=nr rfl
theorem zk:lends 209=false:=nr rfl
theorem zm:lends 210=false:=nr rfl
theorem zn:lends 211=false:=nr rfl
theorem zo:lends 212=false:=nr rfl
theorem zq:lends 213=true:=nr rfl
theorem zt:lends 214=false:=nr rfl
theorem zu:lends 215=false:=nr rfl
set_option maxRecDepth 100000 in
theorem qd:BZ Try.prog Ac:=A0Y (by kernel_rfl)
theorem mixed:Try.prog.follows .mixedOrders=true:=by kernel_rfl
noncomputable def Y0:Dv.Sys:={P:=Try.prog,T:=Ac,lends:=lends,base:=fun _ _ _=>none}
theorem ADU:Dv.Sys.Ok Y0:=⟨qd,mixed,fun _ _ _ _ _ h=>by cases h⟩
theorem ADV(T:Tys)(s:St)(t:TypeId):ev T s t (.const .nilFunc)=some (.konst .nilFunc):=nr rfl
theorem ADW(T:Tys)(s:St)(t:TypeId):ev T s t (.const .nilIface)=some (.konst .nilIface):=nr rfl
theorem ADX(T:Tys)(s:St)(t:TypeId):ev T s t (.const (.pointer none))=some (.konst (.pointer none)):=nr rfl
theorem y0T:Y0.T=Ac:=nr rfl
theorem y0L:Y0.lends=lends:=nr rfl
set_option maxRecDepth 10000 in
set_option linter.defProp false in
def A8e:=
 A7 @y0T (
 A7 @y0L (
 A7 @ty3 (
 A7 @ty4 (
 A7 @ty5 (
 A7 @A5k (
 A7 @A5q (
 A7 @A1Q (
 A7 @A5z (
 A7 @A1T (
 A7 @A1U (
 A7 @A6F (
 A7 @A6L (
 A7 @A6R (
 A7 @A6X (
 A7 @A6d (
 A7 @A6j (
 A7 @A6p (
 A7 @A6v (
 A7 @A71 (
 A7 @A77 (
 A7 @tZ (
 A7 @uB (
 A7 @mU (
 A7 @uM (
 A7 @uS (
 A7 @uY (
 A7 @uk (
 A7 @uu (
 A7 @vD (
 A7 @vJ (
 A7 @vP (
 A7 @vQ (
 A7 @vW (
 A7 @vo (
 A7 @mV (
 A7 @wJ (
 A7 @wK (
 A7 @wQ (
 A7 @wW (
 A7 @wo (
 A7 @x9 (
 A7 @kn3 (
 A7 @st3 (
 A7 @sz3 (
 A7 @zr3 (
 A7 @kn4 (
 A7 @st4 (
 A7 @sz4 (
 A7 @zr4 (
 A7 @kn5 (
 A7 @st5 (
 A7 @sz5 (
 A7 @zr5 (
 A7 @A5l (
 A7 @A5m (
 A7 @A5p (
 A7 @A5n (
 A7 @A5r (
 A7 @A5s (
 A7 @A5v (
 A7 @A5t (
 A7 @A1R (
 A7 @A5w (
 A7 @A1S (
 A7 @A5x (
 A7 @A60 (
 A7 @A61 (
 A7 @A64 (
 A7 @A62 (
 A7 @A65 (
 A7 @A66 (
 A7 @A69 (
 A7 @A67 (
 A7 @A6A (
 A7 @A6B (
 A7 @A6E (
 A7 @A6C (
 A7 @A6G (
 A7 @A6H (
 A7 @A6K (
 A7 @A6I (
 A7 @A6M (
 A7 @A6N (
 A7 @A6Q (
 A7 @A6O (
 A7 @A6S (
 A7 @A6T (
 A7 @A6W (
 A7 @A6U (
 A7 @A6Y (
 A7 @A6Z (
 A7 @A6c (
 A7 @A6a (
 A7 @A6e (
 A7 @A6f (
 A7 @A6i (
 A7 @A6g (
 A7 @A6k (
 A7 @A6l (
 A7 @A6o (
 A7 @A6m (
 A7 @A6q (
 A7 @A6r (
 A7 @A6u (
 A7 @A6s (
 A7 @A6w (
 A7 @A6x (
 A7 @A70 (
 A7 @A6y (
 A7 @A72 (
 A7 @A73 (
 A7 @A76 (
 A7 @A74 (
 A7 @A78 (
 A7 @A79 (
 A7 @A7C (
 A7 @A7A (
 A7 @tq (
 A7 @tu (
 A7 @uA (
 A7 @u6 (
 A7 @uC (
 A7 @uD (
 A7 @uG (
 A7 @uE (
 A7 @uH (
 A7 @uI (
 A7 @uL (
 A7 @uJ (
 A7 @uN (
 A7 @uO (
 A7 @uR (
 A7 @uP (
 A7 @uT (
 A7 @uU (
 A7 @uX (
 A7 @uV (
 A7 @uZ (
 A7 @uf (
 A7 @uj (
 A7 @ug (
 A7 @ul (
 A7 @um (
 A7 @ut (
 A7 @uo (
 A7 @uw (
 A7 @uy (
 A7 @vC (
 A7 @uz (
 A7 @vE (
 A7 @vF (
 A7 @vI (
 A7 @vG (
 A7 @vK (
 A7 @vL (
 A7 @vO (
 A7 @vM (
 A7 @vR (
 A7 @vS (
 A7 @vV (
 A7 @vT (
 A7 @vX (
 A7 @vY (
 A7 @vk (
 A7 @vZ (
 A7 @vz (
 A7 @w9 (
 A7 @wD (
 A7 @wB (
 A7 @wE (
 A7 @wF (
 A7 @wI (
 A7 @wG (
 A7 @wL (
 A7 @wM (
 A7 @wP (
 A7 @wN (
 A7 @wR (
 A7 @wS (
 A7 @wV (
 A7 @wT (
 A7 @wX (
 A7 @wY (
 A7 @wm (
 A7 @wZ (
 A7 @wu (
 A7 @ww (
 A7 @x8 (
 A7 @wy (
 A7 @xA (
 A7 @xB (
 A7 @xE (
 A7 @xC (
 A7 @A5u (
 A7 @A63 (
 A7 @A6D (
 A7 @A6P (
 A7 @A6V (
 A7 @A6b (
 A7 @A6n (
 A7 @A6z (
 A7 @uW (
 A7 @vH (
 A7 @wH (
 A7 @wO (
 A7 @mJ (
 A7 @mK (
 A7 @mM (
 A7 @mO (
 A7 @mP (
 A7 @mQ (
 A7 @mR (
 A7 @zo3 (
 A7 @zo4 (
 A7 @zo5 (
 A7 @A5o (
 A7 @A5y (
 A7 @A68 (
 A7 @A6J (
 A7 @A6h (
 A7 @A6t (
 A7 @A75 (
 A7 @A7B (
 A7 @u7 (
 A7 @uF (
 A7 @uK (
 A7 @uQ (
 A7 @uh (
 A7 @uq (
 A7 @vB (
 A7 @vN (
 A7 @vU (
 A7 @vg (
 A7 @wC (
 A7 @wU (
 A7 @wh (
 A7 @wz (
 A7 @xD (
 A7 @le3 (
 A7 @le4 (
 A7 @le5 (
 A7 @le6 (
 A7 @le7 (
 A7 @le8 (
 A7 @le9 (
 A7 @A7D (
 A7 @A7E (
 A7 @A7F (
 A7 @A7G (
 A7 @A7H (
 A7 @A7I (
 A7 @A7J (
 A7 @A7K (
 A7 @A7L (
 A7 @A7M (
 A7 @A7N (
 A7 @A7O (
 A7 @A7P (
 A7 @A7Q (
 A7 @A7R (
 A7 @A7S (
 A7 @A7T (
 A7 @A7U (
 A7 @A7V (
 A7 @A7W (
 A7 @A7X (
 A7 @A7Y (
 A7 @A7Z (
 A7 @A7a (
 A7 @A7b (
 A7 @A7c (
 A7 @A7d (
 A7 @A7e (
 A7 @A7f (
 A7 @A7g (
 A7 @A7h (
 A7 @A7i (
 A7 @A7j (
 A7 @A7k (
 A7 @A7l (
 A7 @A7m (
 A7 @A7n (
 A7 @A7o (
 A7 @A7p (
 A7 @A7q (
 A7 @A7r (
 A7 @A7s (
 A7 @A7t (
 A7 @A7u (
 A7 @A7v (
 A7 @A7w (
 A7 @A7x (
 A7 @A7y (
 A7 @A7z (
 A7 @A80 (
 A7 @A81 (
 A7 @A82 (
 A7 @A83 (
 A7 @A84 (
 A7 @A85 (
 A7 @A86 (
 A7 @A87 (
 A7 @A88 (
 A7 @A89 (
 A7 @A8A (
 A7 @A8B (
 A7 @A8C (
 A7 @A8D (
 A7 @A8E (
 A7 @A8F (
 A7 @A8G (
 A7 @A1V (
 A7 @A8H (
 A7 @A8I (
 A7 @A8J (
 A7 @A8K (
 A7 @A8L (
 A7 @A8M (
 A7 @A8N (
 A7 @A8O (
 A7 @A8P (
 A7 @A8Q (
 A7 @A8R (
 A7 @A8S (
 A7 @A8T (
 A7 @A8U (
 A7 @A8V (
 A7 @A8W (
 A7 @A8X (
 A7 @A8Y (
 A7 @A8Z (
 A7 @A8a (
 A7 @A8b (
 A7 @A8c (
 A7 @A8d (
 A7 @xF (
 A7 @xG (
 A7 @xH (
 A7 @xI (
 A7 @xJ (
 A7 @xK (
 A7 @xL (
 A7 @xM (
 A7 @xN (
 A7 @xO (
 A7 @xP (
 A7 @xQ (
 A7 @xR (
 A7 @xS (
 A7 @xU (
 A7 @xV (
 A7 @xW (
 A7 @xX (
 A7 @xY (
 A7 @mW (
 A7 @xZ (
 A7 @xc (
 A7 @xe (
 A7 @xf (
 A7 @xg (
 A7 @xh (
 A7 @xk (
 A7 @xm (
 A7 @xn (
 A7 @xq (
 A7 @xu (
 A7 @xw (
 A7 @xx (
 A7 @xy (
 A7 @xz (
 A7 @y5 (
 A7 @y7 (
 A7 @y8 (
 A7 @y9 (
 A7 @yA (
 A7 @yB (
 A7 @yC (
 A7 @yD (
 A7 @yE (
 A7 @yF (
 A7 @yG (
 A7 @yH (
 A7 @yI (
 A7 @yJ (
 A7 @yK (
 A7 @yM (
 A7 @yN (
 A7 @yO (
 A7 @yP (
 A7 @yQ (
 A7 @yR (
 A7 @yS (
 A7 @yU (
 A7 @yV (
 A7 @yX (
 A7 @yY (
 A7 @yZ (
 A7 @yc (
 A7 @yf (
 A7 @yg (
 A7 @yh (
 A7 @yj (
 A7 @yl (
 A7 @ym (
 A7 @yn (
 A7 @mX (
 A7 @yo (
 A7 @yt (
 A7 @yu (
 A7 @yw (
 A7 @yx (
 A7 @yz (
 A7 @z8 (
 A7 @zA (
 A7 @zC (
 A7 @zD (
 A7 @zF (
 A7 @zG (
 A7 @zH (
 A7 @zI (
 A7 @zJ (
 A7 @zK (
 A7 @zL (
 A7 @zM (
 A7 @zN (
 A7 @zO (
 A7 @zP (
 A7 @zQ (
 A7 @zR (
 A7 @zS (
 A7 @zT (
 A7 @zU (
 A7 @zV (
 A7 @zW (
 A7 @zX (
 A7 @zY (
 A7 @zZ (
 A7 @za (
 A7 @zb (
 A7 @ze (
 A7 @zf (
 A7 @zg (
 A7 @zh (
 A7 @zi (
 A7 @zk (
 A7 @zm (
 A7 @zn (
 A7 @zo (
 A7 @zq (
 A7 @zt (@zu)))))))))))))))))))))))))))))))))))))))))))))))))))))))))))))))))))))))))))))))))))))))))))))))))))))))))))))))))))))))))))))))))))))))))))))))))))))))))))))))))))))))))))))))))))))))))))))))))))))))))))))))))))))))))))))))))))))))))))))))))))))))))))))))))))))))))))))))))))))))))))))))))))))))))))))))))))))))))))))))))))))))))))))))))))))))))))))))))))))))))))))))))))))))))))))))))))))))))))))))))))))))))))))))))))))))))))))))))))))))))))))))))))
def mY:SC:= .seq (.ops [oX 2 (.assign (.const (.slice none 0 0))) 26]) (.seq (.seq (.ops [oM 3 0 26,oB 4 .eql 26 (tK 3) (.const (.slice none 0 0)) 26 4]) (.cond (tK 4) (.seq (.ops [oX 2 (.assign (.const (.slice none 0 0))) 26]) .ret) .skip)) (.seq (.ops [oX 5 (.buildSlice 26 0 #[]) 26,oM 6 0 26,oX 7 (.call ⟨(.builtin .append), #[(tK 5),(tK 6)], #[26,26]⟩) 26,oA 2 7 26]) .ret))
theorem eY:Try.f121.body.map (Ba lends)=some mY:=by kernel_rfl
theorem zw:Bz Try.f121 1=true:=by kernel_rfl
theorem bz(A:Option Addr)(c:Nat):Y0.call 121 [.konst (.slice A 0 c)] []=some (.own 3 [],[]):=by
 refine Aa (Y:=Y0) rfl Try.func121 zw eY ?_;show C8 Y0.env mY (Fa Ac 0 [ResultVar.tmp 2] _) _
 unfold mY
 cases A<;>simp only [↓AQ,lY,A8e,implies_true,Ce,Mv,Option.isSome_some,↓reduceIte,Nat.reduceEqDiff,Nat.reduceLT,Nat.reduceLeDiff,Nat.reduceAdd,Nat.reduceMul,Nat.reduceMod,Nat.reduceSub,List.contains_cons,List.contains_nil,Nat.reduceBEq,List.getD_cons_zero,List.getD_cons_succ,List.getD_nil,OI,SI,List.size_toArray,List.toList_toArray,List.zip_cons_cons,List.zip_nil_left,V3,V4,QG,PD,List.map_nil,gQ,List.replicate_zero,List.set_cons_zero,YC,List.set_set,QI,List.any_cons,List.any_nil,List.all_nil,OH,QF,List.getElem?_nil,List.range_zero,beq_self_eq_true,Int.reduceLE,Int.reduceLT,Int.reduceEq,Int.reduceSub,Int.reduceAdd,Int.reduceToNat,Int.reduceNeg,Option.isNone_none,Option.isNone_some]
theorem qf:Dv.Good Try.prog Ac 121 [.sl 3 []] [] (.own 3 []) []:=bU kn3 (fun A c=>Dv.Sys.call_good ADU (bz A c))
def mZ(f:FuncId)(a l:List D):Option (D×List D):=
 match f,a,l with
 |121,[.sl 3 []],[]=>some (.own 3 [],[])
 |_,_,_=>none
theorem qg: ∀f a l r outs,mZ f a l=some (r,outs)→Dv.Good Try.prog Ac f a l r outs:=by
 intro f a l r outs h;unfold mZ at h
 split at h
 ·simp only [Option.some.injEq,Prod.mk.injEq]at h;obtain⟨rfl,rfl⟩:=h;exact qf
 ·cases h
theorem ma: ∀zs:AL,zs.length<4611686018427387904→Dv.Good Try.prog Ac 152 [.vw [100000] 0 0] [.own 3 (I5 zs)] (.tup []) [.own 3 (I5 (Cs zs))]:=fun zs h=>
 jL ⟨Try.f152,Try.func152,rfl,by decide⟩ sz3 (fun blk off cap zs w h1 h2 h3=>Try.slices_Sort_int blk off cap zs w h1 h2 h3) (fun p cap w=>Try.slices_Sort_int_none p cap w) zs h
theorem cB: ∀zs:AL,zs.length<1099511627776→Dv.Good Try.prog Ac 115 [.clo 155 [.cptr [.sl 3 (I5 zs)]]] [] (.own 3 (I5 (Cs zs))) []:=fun zs h=>
 ZN ⟨Try.f115,Try.func115,rfl,by decide⟩ sz3
  (fun p ad cap w h1 h2=>callsIn_wide.1 (Go.Proofs.sv.sorted_in 5 (IB _) p _ [] (by decide) (by decide) w h1 h2 (.inl ⟨ad,cap,rfl,rfl⟩)))
  (fun p b off cap zs w h0 h1 h2 h3 h4=>callsIn_wide.1 (Go.Proofs.sv.sorted_in 5 (IB _) p _ zs (by have:maxLen=9223372036854775807:=rfl;omega) (by omega) w h1 h2 (.inr ⟨b,off,cap,rfl,h3,h4⟩))) zs h
theorem ZP: ∀n:Nat,n<1099511627776→Dv.Good Try.prog Ac 100 [.konst (.slice none 0 0),.int .i64 n] [] (.own 26 []) []:=fun n h=>
 bv (ρ:=Try.laysGrow100_ren) qd Try.laysGrow100 ⟨Try.f100,Try.func100,rfl,by decide⟩ A1R A1S n h
noncomputable def Y:Dv.Sys:={P:=Try.prog,T:=Ac,lends:=lends,base:=Oo (Nh 100 26) (Oo (Oo mZ (Nf 152 3)) (Ke 115 155 3))}
theorem yOk:Dv.Sys.Ok Y:=⟨qd,mixed,Ng (VO ZP) (Ng (Ng qg (VM ma)) (RV cB))⟩
theorem mf:Ac.ty 900013= .other:=nr rfl
theorem yT:Y.T=Ac:=nr rfl
theorem yL:Y.lends=lends:=nr rfl
set_option maxRecDepth 10000 in
set_option linter.defProp false in
def A8f:=
 A7 @mf (
 A7 @yT (
 A7 @yL (
 A7 @ADV (
 A7 @ADW (
 A7 @ADX (
 A7 @ty3 (
 A7 @ty4 (
 A7 @ty5 (
 A7 @A5k (
 A7 @A5q (
 A7 @A1Q (
 A7 @A5z (
 A7 @A1T (
 A7 @A1U (
 A7 @A6F (
 A7 @A6L (
 A7 @A6R (
 A7 @A6X (
 A7 @A6d (
 A7 @A6j (
 A7 @A6p (
 A7 @A6v (
 A7 @A71 (
 A7 @A77 (
 A7 @tZ (
 A7 @uB (
 A7 @mU (
 A7 @uM (
 A7 @uS (
 A7 @uY (
 A7 @uk (
 A7 @uu (
 A7 @vD (
 A7 @vJ (
 A7 @vP (
 A7 @vQ (
 A7 @vW (
 A7 @vo (
 A7 @mV (
 A7 @wJ (
 A7 @wK (
 A7 @wQ (
 A7 @wW (
 A7 @wo (
 A7 @x9 (
 A7 @kn3 (
 A7 @st3 (
 A7 @sz3 (
 A7 @zr3 (
 A7 @kn4 (
 A7 @st4 (
 A7 @sz4 (
 A7 @zr4 (
 A7 @kn5 (
 A7 @st5 (
 A7 @sz5 (
 A7 @zr5 (
 A7 @A5l (
 A7 @A5m (
 A7 @A5p (
 A7 @A5n (
 A7 @A5r (
 A7 @A5s (
 A7 @A5v (
 A7 @A5t (
 A7 @A1R (
 A7 @A5w (
 A7 @A1S (
 A7 @A5x (
 A7 @A60 (
 A7 @A61 (
 A7 @A64 (
 A7 @A62 (
 A7 @A65 (
 A7 @A66 (
 A7 @A69 (
 A7 @A67 (
 A7 @A6A (
 A7 @A6B (
 A7 @A6E (
 A7 @A6C (
 A7 @A6G (
 A7 @A6H (
 A7 @A6K (
 A7 @A6I (
 A7 @A6M (
 A7 @A6N (
 A7 @A6Q (
 A7 @A6O (
 A7 @A6S (
 A7 @A6T (
 A7 @A6W (
 A7 @A6U (
 A7 @A6Y (
 A7 @A6Z (
 A7 @A6c (
 A7 @A6a (
 A7 @A6e (
 A7 @A6f (
 A7 @A6i (
 A7 @A6g (
 A7 @A6k (
 A7 @A6l (
 A7 @A6o (
 A7 @A6m (
 A7 @A6q (
 A7 @A6r (
 A7 @A6u (
 A7 @A6s (
 A7 @A6w (
 A7 @A6x (
 A7 @A70 (
 A7 @A6y (
 A7 @A72 (
 A7 @A73 (
 A7 @A76 (
 A7 @A74 (
 A7 @A78 (
 A7 @A79 (
 A7 @A7C (
 A7 @A7A (
 A7 @tq (
 A7 @tu (
 A7 @uA (
 A7 @u6 (
 A7 @uC (
 A7 @uD (
 A7 @uG (
 A7 @uE (
 A7 @uH (
 A7 @uI (
 A7 @uL (
 A7 @uJ (
 A7 @uN (
 A7 @uO (
 A7 @uR (
 A7 @uP (
 A7 @uT (
 A7 @uU (
 A7 @uX (
 A7 @uV (
 A7 @uZ (
 A7 @uf (
 A7 @uj (
 A7 @ug (
 A7 @ul (
 A7 @um (
 A7 @ut (
 A7 @uo (
 A7 @uw (
 A7 @uy (
 A7 @vC (
 A7 @uz (
 A7 @vE (
 A7 @vF (
 A7 @vI (
 A7 @vG (
 A7 @vK (
 A7 @vL (
 A7 @vO (
 A7 @vM (
 A7 @vR (
 A7 @vS (
 A7 @vV (
 A7 @vT (
 A7 @vX (
 A7 @vY (
 A7 @vk (
 A7 @vZ (
 A7 @vz (
 A7 @w9 (
 A7 @wD (
 A7 @wB (
 A7 @wE (
 A7 @wF (
 A7 @wI (
 A7 @wG (
 A7 @wL (
 A7 @wM (
 A7 @wP (
 A7 @wN (
 A7 @wR (
 A7 @wS (
 A7 @wV (
 A7 @wT (
 A7 @wX (
 A7 @wY (
 A7 @wm (
 A7 @wZ (
 A7 @wu (
 A7 @ww (
 A7 @x8 (
 A7 @wy (
 A7 @xA (
 A7 @xB (
 A7 @xE (
 A7 @xC (
 A7 @A5u (
 A7 @A63 (
 A7 @A6D (
 A7 @A6P (
 A7 @A6V (
 A7 @A6b (
 A7 @A6n (
 A7 @A6z (
 A7 @uW (
 A7 @vH (
 A7 @wH (
 A7 @wO (
 A7 @mJ (
 A7 @mK (
 A7 @mM (
 A7 @mO (
 A7 @mP (
 A7 @mQ (
 A7 @mR (
 A7 @zo3 (
 A7 @zo4 (
 A7 @zo5 (
 A7 @A5o (
 A7 @A5y (
 A7 @A68 (
 A7 @A6J (
 A7 @A6h (
 A7 @A6t (
 A7 @A75 (
 A7 @A7B (
 A7 @u7 (
 A7 @uF (
 A7 @uK (
 A7 @uQ (
 A7 @uh (
 A7 @uq (
 A7 @vB (
 A7 @vN (
 A7 @vU (
 A7 @vg (
 A7 @wC (
 A7 @wU (
 A7 @wh (
 A7 @wz (
 A7 @xD (
 A7 @le3 (
 A7 @le4 (
 A7 @le5 (
 A7 @le6 (
 A7 @le7 (
 A7 @le8 (
 A7 @le9 (
 A7 @A7D (
 A7 @A7E (
 A7 @A7F (
 A7 @A7G (
 A7 @A7H (
 A7 @A7I (
 A7 @A7J (
 A7 @A7K (
 A7 @A7L (
 A7 @A7M (
 A7 @A7N (
 A7 @A7O (
 A7 @A7P (
 A7 @A7Q (
 A7 @A7R (
 A7 @A7S (
 A7 @A7T (
 A7 @A7U (
 A7 @A7V (
 A7 @A7W (
 A7 @A7X (
 A7 @A7Y (
 A7 @A7Z (
 A7 @A7a (
 A7 @A7b (
 A7 @A7c (
 A7 @A7d (
 A7 @A7e (
 A7 @A7f (
 A7 @A7g (
 A7 @A7h (
 A7 @A7i (
 A7 @A7j (
 A7 @A7k (
 A7 @A7l (
 A7 @A7m (
 A7 @A7n (
 A7 @A7o (
 A7 @A7p (
 A7 @A7q (
 A7 @A7r (
 A7 @A7s (
 A7 @A7t (
 A7 @A7u (
 A7 @A7v (
 A7 @A7w (
 A7 @A7x (
 A7 @A7y (
 A7 @A7z (
 A7 @A80 (
 A7 @A81 (
 A7 @A82 (
 A7 @A83 (
 A7 @A84 (
 A7 @A85 (
 A7 @A86 (
 A7 @A87 (
 A7 @A88 (
 A7 @A89 (
 A7 @A8A (
 A7 @A8B (
 A7 @A8C (
 A7 @A8D (
 A7 @A8E (
 A7 @A8F (
 A7 @A8G (
 A7 @A1V (
 A7 @A8H (
 A7 @A8I (
 A7 @A8J (
 A7 @A8K (
 A7 @A8L (
 A7 @A8M (
 A7 @A8N (
 A7 @A8O (
 A7 @A8P (
 A7 @A8Q (
 A7 @A8R (
 A7 @A8S (
 A7 @A8T (
 A7 @A8U (
 A7 @A8V (
 A7 @A8W (
 A7 @A8X (
 A7 @A8Y (
 A7 @A8Z (
 A7 @A8a (
 A7 @A8b (
 A7 @A8c (
 A7 @A8d (
 A7 @xF (
 A7 @xG (
 A7 @xH (
 A7 @xI (
 A7 @xJ (
 A7 @xK (
 A7 @xL (
 A7 @xM (
 A7 @xN (
 A7 @xO (
 A7 @xP (
 A7 @xQ (
 A7 @xR (
 A7 @xS (
 A7 @xU (
 A7 @xV (
 A7 @xW (
 A7 @xX (
 A7 @xY (
 A7 @mW (
 A7 @xZ (
 A7 @xc (
 A7 @xe (
 A7 @xf (
 A7 @xg (
 A7 @xh (
 A7 @xk (
 A7 @xm (
 A7 @xn (
 A7 @xq (
 A7 @xu (
 A7 @xw (
 A7 @xx (
 A7 @xy (
 A7 @xz (
 A7 @y5 (
 A7 @y7 (
 A7 @y8 (
 A7 @y9 (
 A7 @yA (
 A7 @yB (
 A7 @yC (
 A7 @yD (
 A7 @yE (
 A7 @yF (
 A7 @yG (
 A7 @yH (
 A7 @yI (
 A7 @yJ (
 A7 @yK (
 A7 @yM (
 A7 @yN (
 A7 @yO (
 A7 @yP (
 A7 @yQ (
 A7 @yR (
 A7 @yS (
 A7 @yU (
 A7 @yV (
 A7 @yX (
 A7 @yY (
 A7 @yZ (
 A7 @yc (
 A7 @yf (
 A7 @yg (
 A7 @yh (
 A7 @yj (
 A7 @yl (
 A7 @ym (
 A7 @yn (
 A7 @mX (
 A7 @yo (
 A7 @yt (
 A7 @yu (
 A7 @yw (
 A7 @yx (
 A7 @yz (
 A7 @z8 (
 A7 @zA (
 A7 @zC (
 A7 @zD (
 A7 @zF (
 A7 @zG (
 A7 @zH (
 A7 @zI (
 A7 @zJ (
 A7 @zK (
 A7 @zL (
 A7 @zM (
 A7 @zN (
 A7 @zO (
 A7 @zP (
 A7 @zQ (
 A7 @zR (
 A7 @zS (
 A7 @zT (
 A7 @zU (
 A7 @zV (
 A7 @zW (
 A7 @zX (
 A7 @zY (
 A7 @zZ (
 A7 @za (
 A7 @zb (
 A7 @ze (
 A7 @zf (
 A7 @zg (
 A7 @zh (
 A7 @zi (
 A7 @zk (
 A7 @zm (
 A7 @zn (
 A7 @zo (
 A7 @zq (
 A7 @zt (@zu)))))))))))))))))))))))))))))))))))))))))))))))))))))))))))))))))))))))))))))))))))))))))))))))))))))))))))))))))))))))))))))))))))))))))))))))))))))))))))))))))))))))))))))))))))))))))))))))))))))))))))))))))))))))))))))))))))))))))))))))))))))))))))))))))))))))))))))))))))))))))))))))))))))))))))))))))))))))))))))))))))))))))))))))))))))))))))))))))))))))))))))))))))))))))))))))))))))))))))))))))))))))))))))))))))))))))))))))))))))))))))))))))))))))
theorem A8g(n:Int)(h:0≤n∧n<1099511627776):Y.call 100 [.konst (.slice none 0 0),.int .i64 n] []=some (.own 26 [],[]):=Dv.Sys.call_base (RB<|ZO 100 26 n h)
theorem Tn(zs:AL)(h:zs.length<1099511627776):Y.call 115 [.clo 155 [.cptr [.sl 3 (AP (D.int .i64) zs)]]] []=some (.own 3 (AP (D.int .i64) (Cs zs)),[]):=Dv.Sys.call_base ((VN 115 155 3 zs h))
theorem mg(zs:AL)(h:zs.length<4611686018427387904):Y.call 152 [.vw [100000] 0 0] [.own 3 (AP (D.int .i64) zs)]=some (.tup [],[.own 3 (AP (D.int .i64) (Cs zs))]):=Dv.Sys.call_base (RB<|(ZM 152 3 zs h))
theorem jP(xs:List D)(h:xs.length<1099511627776)(hs:xs.all DW=true)(ho:Aj xs=false)(hf:(EG (.own 3 xs)).isSome=true):Y.call 121 [.sl 3 xs] []=some (.own 3 xs,[]):=by
 cases xs with
 |nil=>exact Dv.Sys.call_base rfl
 |cons x xs=>
  refine Aa (Y:=Y) rfl Try.func121 zw eY ?_;show C8 Y.env mY (Fa Ac 0 [ResultVar.tmp 2] _) _
  unfold mY;have h0:0+(x::xs).length<1099511627776:=by omega
  simp only [OI,JG]at h0;simp only [QI,eG]at hs ho;simp only [↓AQ,lY,A8f,implies_true,Ce,Mv,Option.isSome_some,↓reduceIte,Nat.reduceEqDiff,Nat.reduceLT,Nat.reduceLeDiff,Nat.reduceAdd,Nat.reduceMul,Nat.reduceMod,Nat.reduceSub,List.contains_cons,List.contains_nil,Nat.reduceBEq,List.getD_cons_zero,List.getD_cons_succ,List.getD_nil,OI,SI,List.size_toArray,List.toList_toArray,List.zip_cons_cons,List.zip_nil_left,V3,V4,QG,PD,List.map_nil,gQ,List.replicate_zero,List.set_cons_zero,YC,List.set_set,QI,List.any_cons,List.any_nil,List.all_nil,OH,QF,List.getElem?_nil,List.range_zero,beq_self_eq_true,Int.reduceLE,Int.reduceLT,Int.reduceEq,Int.reduceSub,Int.reduceAdd,Int.reduceToNat,Int.reduceNeg,JG,h0,hs,ho];simp only [tV,eH]at hf;rw [if_pos hf]
set_option linter.defProp false in
def AR:=A7 lY (A7 ADS (A7 xc2 (A7 A5j A8f)))
abbrev CV:Op:= .assign (.const (.bool false))
abbrev Fw:Operand:= .const (.bool true)
abbrev OL:Op:= .assign (.const (.slice none 0 0))
abbrev Ot:Op:= .assign (.const (.int .i64 (-1)))
abbrev Ou:Operand:= .const (.bool false)
abbrev cK:Op:= .fieldAddr 47 (tK 1) 0
abbrev mh:Operand:= .const (.slice none 0 0)
end Go.Proofs.Ytclkfhhdikfcpaa
