/- The types of this seat as data, and the system of its calls. Conditions: none. -/
import Derived.Test.YtclkfhhdikfcpaaRows
import Derived.Test.YtclkfhhdikfcpaaL6
import Derived.Test.YtclkfhhdikfcpaaSv
import Derived.KernelRfl
namespace Go.Proofs.Ytclkfhhdikfcpaa
open Go Dv
set_option linter.unusedSimpArgs false
set_option maxRecDepth 100000
def ny:List Ty:=[.other,.func,.int .i64,.int .i64,.bool,.int .u8,.int .u8,.struct [2,3,4,6],.struct [2,3,4,6],.string,.string,.string,.int .u64,.struct [9,12],.struct [9,12],.ptr,.ptr,.ptr,.struct [17],.struct [17],.other,.int .i32,.slice 26,.struct [3,3,22,22],.struct [3,3,22,22],.func,.slice 3,.other,.func,.struct [3,3,22,22],.func,.func,.func,.func,.func,.func,.other,.func,.func,.slice 121,.struct [39,26,26],.struct [39,26,26],.func,.other,.func,.slice 123,.struct [45,26,26],.struct [45,26,26],.func,.func,.func,.other,.func,.func,.func,.func,.struct [3,26,3,3],.struct [3,26,3,3],.other,.func,.func,.func,.struct [3,26,3,3],.func,.func,.func,.func,.func,.slice 4,.func,.struct [3,3,22,22,3,3,22,22,68,68],.struct [3,3,22,22,3,3,22,22,68,68],.func,.func,.func,.ptr,.struct [3,3,22,22,3,3,22,22,26],.struct [3,3,22,22,3,3,22,22,26],.func,.func,.func,.func,.func,.func,.func,.func,.func,.func,.func,.func,.func,.func,.func,.func,.func,.func,.func,.other,.func,.func,.other,.func,.func,.func,.func,.func,.func,.func,.func,.func,.int .u64,.func,.func,.func,.func,.slice 22,.other,.func,.func,.func,.func,.slice 159,.func,.slice 125,.struct [3,3],.struct [3,3],.func,.func,.func,.func,.func,.func,.func,.func,.func,.slice 137,.struct [3,3,3,3],.struct [3,3,3,3],.func,.func,.func,.func,.func,.func,.map 3 3,.func,.func,.func,.func,.func,.func,.int .u32,.other,.func,.int .u64,.other,.func,.func,.func,.struct [3,3],.func,.func,.map 164 3,.arr 14 3,.arr 14 3,.func,.func,.func,.func,.func,.func,.func,.func,.func,.func,.func,.func,.func,.func,.func,.int .i64,.other,.func,.func,.func,.func,.func,.int .u64,.func,.func,.func,.ptr,.func,.ptr,.other,.func,.func,.struct [17,17,17,9],.struct [17,17,17,9],.other,.other,.other,.func,.int .u8,.int .u8,.func,.ptr,.int .i32,.int .i32,.struct [12,12,151,203,5,5,204,205,206,207,208],.struct [12,12,151,203,5,5,204,205,206,207,208],.func]
def sG:List (TypeId×List (Nat×TypeId)):=[(70,[(0,29),(4,29),(8,68),(9,68)]),(71,[(0,29),(4,29),(8,68),(9,68)]),(76,[(0,29),(4,29),(8,26)]),(77,[(0,29),(4,29),(8,26)]),(163,[(0,3),(1,3),(2,3),(3,3),(4,3),(5,3),(6,3),(7,3),(8,3),(9,3),(10,3),(11,3),(12,3),(13,3)]),(164,[(0,3),(1,3),(2,3),(3,3),(4,3),(5,3),(6,3),(7,3),(8,3),(9,3),(10,3),(11,3),(12,3),(13,3)])]
def AZ:Tys:=jD ny sG
def lends(f:FuncId):Bool:=[16,17,30,34,47,49,79,88,120,128,152,213].contains f
theorem ty1:AZ.ty 1= .func:=nr rfl
theorem ty2:AZ.ty 2= .int .i64:=nr rfl
theorem ty3:AZ.ty 3= .int .i64:=nr rfl
theorem kn3:AZ.known 3=true:=nr rfl
theorem st3:AZ.isStruct 3=false:=nr rfl
theorem zr3:AZ.zeros 3=[.int .i64 0]:=nr rfl
theorem zo3:AZ.zero1 3= .int .i64 0:=nr rfl
theorem sz3:AZ.size 3=1:=nr rfl
theorem ty4:AZ.ty 4= .bool:=nr rfl
theorem kn4:AZ.known 4=true:=nr rfl
theorem st4:AZ.isStruct 4=false:=nr rfl
theorem zr4:AZ.zeros 4=[.bool false]:=nr rfl
theorem zo4:AZ.zero1 4= .bool false:=nr rfl
theorem sz4:AZ.size 4=1:=nr rfl
theorem ty5:AZ.ty 5= .int .u8:=nr rfl
theorem kn5:AZ.known 5=true:=nr rfl
theorem st5:AZ.isStruct 5=false:=nr rfl
theorem zr5:AZ.zeros 5=[.int .u8 0]:=nr rfl
theorem zo5:AZ.zero1 5= .int .u8 0:=nr rfl
theorem sz5:AZ.size 5=1:=nr rfl
theorem ty6:AZ.ty 6= .int .u8:=nr rfl
theorem ty7:AZ.ty 7= .struct [2,3,4,6]:=nr rfl
theorem ty8:AZ.ty 8= .struct [2,3,4,6]:=nr rfl
theorem ty9:AZ.ty 9= .string:=nr rfl
theorem AHz:AZ.ty 10= .string:=nr rfl
theorem AI0:AZ.ty 11= .string:=nr rfl
theorem AI1:AZ.ty 12= .int .u64:=nr rfl
theorem AI2:AZ.ty 13= .struct [9,12]:=nr rfl
theorem AI3:AZ.ty 14= .struct [9,12]:=nr rfl
theorem AI4:AZ.ty 15= .ptr:=nr rfl
theorem AI5:AZ.ty 16= .ptr:=nr rfl
theorem AI6:AZ.ty 17= .ptr:=nr rfl
theorem AI7:AZ.ty 18= .struct [17]:=nr rfl
theorem AI8:AZ.ty 19= .struct [17]:=nr rfl
theorem AI9:AZ.ty 21= .int .i32:=nr rfl
theorem A15:AZ.ty 22= .slice 26:=nr rfl
theorem A5K:AZ.known 22=true:=nr rfl
theorem A5L:AZ.isStruct 22=false:=nr rfl
theorem A5M:AZ.zeros 22=[.own 26 []]:=nr rfl
theorem A5N:AZ.zero1 22= .own 26 []:=nr rfl
theorem A5O:AZ.size 22=1:=nr rfl
theorem AIA:AZ.ty 23= .struct [3,3,22,22]:=nr rfl
theorem A16:AZ.ty 24= .struct [3,3,22,22]:=nr rfl
theorem A5P:AZ.known 24=true:=nr rfl
theorem A5Q:AZ.isStruct 24=true:=nr rfl
theorem A5R:AZ.zeros 24=[.int .i64 0,.int .i64 0,.own 26 [],.own 26 []]:=nr rfl
theorem A5S:AZ.nest 24=none:=nr rfl
theorem A5T:AZ.size 24=4:=nr rfl
theorem AIB:AZ.ty 25= .func:=nr rfl
theorem A17:AZ.ty 26= .slice 3:=nr rfl
theorem A18:AZ.known 26=true:=nr rfl
theorem A5U:AZ.isStruct 26=false:=nr rfl
theorem A5V:AZ.zeros 26=[.own 3 []]:=nr rfl
theorem A5W:AZ.zero1 26= .own 3 []:=nr rfl
theorem A19:AZ.size 26=1:=nr rfl
theorem AIC:AZ.ty 28= .func:=nr rfl
theorem A5X:AZ.ty 29= .struct [3,3,22,22]:=nr rfl
theorem A5Y:AZ.known 29=true:=nr rfl
theorem A5Z:AZ.isStruct 29=true:=nr rfl
theorem A5a:AZ.zeros 29=[.int .i64 0,.int .i64 0,.own 26 [],.own 26 []]:=nr rfl
theorem A5b:AZ.nest 29=none:=nr rfl
theorem A5c:AZ.size 29=4:=nr rfl
theorem AID:AZ.ty 30= .func:=nr rfl
theorem AIE:AZ.ty 31= .func:=nr rfl
theorem AIF:AZ.ty 32= .func:=nr rfl
theorem AIG:AZ.ty 33= .func:=nr rfl
theorem AIH:AZ.ty 34= .func:=nr rfl
theorem AII:AZ.ty 35= .func:=nr rfl
theorem AIJ:AZ.ty 37= .func:=nr rfl
theorem AIK:AZ.ty 38= .func:=nr rfl
theorem A5d:AZ.ty 39= .slice 121:=nr rfl
theorem A5e:AZ.known 39=true:=nr rfl
theorem A5f:AZ.isStruct 39=false:=nr rfl
theorem A5g:AZ.zeros 39=[.own 121 []]:=nr rfl
theorem A5h:AZ.zero1 39= .own 121 []:=nr rfl
theorem A5i:AZ.size 39=1:=nr rfl
theorem AIL:AZ.ty 40= .struct [39,26,26]:=nr rfl
theorem A5j:AZ.ty 41= .struct [39,26,26]:=nr rfl
theorem A5k:AZ.known 41=true:=nr rfl
theorem A5l:AZ.isStruct 41=true:=nr rfl
theorem A5m:AZ.zeros 41=[.own 121 [],.own 3 [],.own 3 []]:=nr rfl
theorem A5n:AZ.nest 41=none:=nr rfl
theorem A5o:AZ.size 41=3:=nr rfl
theorem AIM:AZ.ty 42= .func:=nr rfl
theorem AIN:AZ.ty 44= .func:=nr rfl
theorem A5p:AZ.ty 45= .slice 123:=nr rfl
theorem A5q:AZ.known 45=true:=nr rfl
theorem A5r:AZ.isStruct 45=false:=nr rfl
theorem A5s:AZ.zeros 45=[.own 123 []]:=nr rfl
theorem A5t:AZ.zero1 45= .own 123 []:=nr rfl
theorem A5u:AZ.size 45=1:=nr rfl
theorem AIO:AZ.ty 46= .struct [45,26,26]:=nr rfl
theorem A5v:AZ.ty 47= .struct [45,26,26]:=nr rfl
theorem A5w:AZ.known 47=true:=nr rfl
theorem A5x:AZ.isStruct 47=true:=nr rfl
theorem A5y:AZ.zeros 47=[.own 123 [],.own 3 [],.own 3 []]:=nr rfl
theorem A5z:AZ.nest 47=none:=nr rfl
theorem A60:AZ.size 47=3:=nr rfl
theorem AIP:AZ.ty 48= .func:=nr rfl
theorem AIQ:AZ.ty 49= .func:=nr rfl
theorem AIR:AZ.ty 50= .func:=nr rfl
theorem AIS:AZ.ty 52= .func:=nr rfl
theorem AIT:AZ.ty 53= .func:=nr rfl
theorem AIU:AZ.ty 54= .func:=nr rfl
theorem AIV:AZ.ty 55= .func:=nr rfl
theorem AIW:AZ.ty 56= .struct [3,26,3,3]:=nr rfl
theorem A61:AZ.ty 57= .struct [3,26,3,3]:=nr rfl
theorem A62:AZ.known 57=true:=nr rfl
theorem A63:AZ.isStruct 57=true:=nr rfl
theorem A64:AZ.zeros 57=[.int .i64 0,.own 3 [],.int .i64 0,.int .i64 0]:=nr rfl
theorem A65:AZ.nest 57=none:=nr rfl
theorem A66:AZ.size 57=4:=nr rfl
theorem AIX:AZ.ty 59= .func:=nr rfl
theorem AIY:AZ.ty 60= .func:=nr rfl
theorem AIZ:AZ.ty 61= .func:=nr rfl
theorem A67:AZ.ty 62= .struct [3,26,3,3]:=nr rfl
theorem A68:AZ.known 62=true:=nr rfl
theorem A69:AZ.isStruct 62=true:=nr rfl
theorem A6A:AZ.zeros 62=[.int .i64 0,.own 3 [],.int .i64 0,.int .i64 0]:=nr rfl
theorem A6B:AZ.nest 62=none:=nr rfl
theorem A6C:AZ.size 62=4:=nr rfl
theorem AIa:AZ.ty 63= .func:=nr rfl
theorem AIb:AZ.ty 64= .func:=nr rfl
theorem AIc:AZ.ty 65= .func:=nr rfl
theorem AId:AZ.ty 66= .func:=nr rfl
theorem AIe:AZ.ty 67= .func:=nr rfl
theorem A6D:AZ.ty 68= .slice 4:=nr rfl
theorem A6E:AZ.known 68=true:=nr rfl
theorem A6F:AZ.isStruct 68=false:=nr rfl
theorem A6G:AZ.zeros 68=[.own 4 []]:=nr rfl
theorem A6H:AZ.zero1 68= .own 4 []:=nr rfl
theorem A6I:AZ.size 68=1:=nr rfl
theorem AIf:AZ.ty 69= .func:=nr rfl
theorem AIg:AZ.ty 70= .struct [3,3,22,22,3,3,22,22,68,68]:=nr rfl
theorem A6J:AZ.ty 71= .struct [3,3,22,22,3,3,22,22,68,68]:=nr rfl
theorem A6K:AZ.known 71=true:=nr rfl
theorem A6L:AZ.isStruct 71=true:=nr rfl
theorem A6M:AZ.zeros 71=[.int .i64 0,.int .i64 0,.own 26 [],.own 26 [],.int .i64 0,.int .i64 0,.own 26 [],.own 26 [],.own 4 [],.own 4 []]:=nr rfl
theorem A6N:AZ.nest 71=some [(0,29),(4,29),(8,68),(9,68)]:=nr rfl
theorem mG:AZ.foff 71 0=some 0:=nr rfl
theorem mH:AZ.foff 71 1=some 4:=nr rfl
theorem mI:AZ.foff 71 2=some 8:=nr rfl
theorem mJ:AZ.foff 71 3=some 9:=nr rfl
theorem A6O:AZ.size 71=10:=nr rfl
theorem AIh:AZ.ty 72= .func:=nr rfl
theorem AIi:AZ.ty 73= .func:=nr rfl
theorem AIj:AZ.ty 74= .func:=nr rfl
theorem A6P:AZ.ty 75= .ptr:=nr rfl
theorem A6Q:AZ.known 75=true:=nr rfl
theorem A6R:AZ.isStruct 75=false:=nr rfl
theorem A6S:AZ.zeros 75=[.konst (.pointer none)]:=nr rfl
theorem A6T:AZ.zero1 75= .konst (.pointer none):=nr rfl
theorem A6U:AZ.size 75=1:=nr rfl
theorem AIk:AZ.ty 76= .struct [3,3,22,22,3,3,22,22,26]:=nr rfl
theorem A6V:AZ.ty 77= .struct [3,3,22,22,3,3,22,22,26]:=nr rfl
theorem A6W:AZ.known 77=true:=nr rfl
theorem A6X:AZ.isStruct 77=true:=nr rfl
theorem A6Y:AZ.zeros 77=[.int .i64 0,.int .i64 0,.own 26 [],.own 26 [],.int .i64 0,.int .i64 0,.own 26 [],.own 26 [],.own 3 []]:=nr rfl
theorem A6Z:AZ.nest 77=some [(0,29),(4,29),(8,26)]:=nr rfl
theorem mK:AZ.foff 77 0=some 0:=nr rfl
theorem mM:AZ.foff 77 1=some 4:=nr rfl
theorem mO:AZ.foff 77 2=some 8:=nr rfl
theorem A6a:AZ.size 77=9:=nr rfl
theorem AIl:AZ.ty 78= .func:=nr rfl
theorem AIm:AZ.ty 79= .func:=nr rfl
theorem AIn:AZ.ty 80= .func:=nr rfl
theorem AIo:AZ.ty 81= .func:=nr rfl
theorem AIp:AZ.ty 82= .func:=nr rfl
theorem AIq:AZ.ty 83= .func:=nr rfl
theorem AIr:AZ.ty 84= .func:=nr rfl
theorem AIs:AZ.ty 85= .func:=nr rfl
theorem AIt:AZ.ty 86= .func:=nr rfl
theorem A6b:AZ.ty 87= .func:=nr rfl
theorem A6c:AZ.known 87=true:=nr rfl
theorem A6d:AZ.isStruct 87=false:=nr rfl
theorem A6e:AZ.zeros 87=[.konst .nilFunc]:=nr rfl
theorem A6f:AZ.zero1 87= .konst .nilFunc:=nr rfl
theorem A6g:AZ.size 87=1:=nr rfl
theorem AIu:AZ.ty 88= .func:=nr rfl
theorem AIv:AZ.ty 89= .func:=nr rfl
theorem AIw:AZ.ty 90= .func:=nr rfl
theorem AIx:AZ.ty 91= .func:=nr rfl
theorem AIy:AZ.ty 92= .func:=nr rfl
theorem AIz:AZ.ty 93= .func:=nr rfl
theorem AJ0:AZ.ty 94= .func:=nr rfl
theorem AJ1:AZ.ty 95= .func:=nr rfl
theorem A6h:AZ.ty 96= .func:=nr rfl
theorem A6i:AZ.known 96=true:=nr rfl
theorem A6j:AZ.isStruct 96=false:=nr rfl
theorem A6k:AZ.zeros 96=[.konst .nilFunc]:=nr rfl
theorem A6l:AZ.zero1 96= .konst .nilFunc:=nr rfl
theorem A6m:AZ.size 96=1:=nr rfl
theorem AJ2:AZ.ty 98= .func:=nr rfl
theorem AJ3:AZ.ty 99= .func:=nr rfl
theorem AF3:AZ.ty 101= .func:=nr rfl
theorem AF4:AZ.ty 102= .func:=nr rfl
theorem AF5:AZ.ty 103= .func:=nr rfl
theorem AF6:AZ.ty 104= .func:=nr rfl
theorem AF7:AZ.ty 105= .func:=nr rfl
theorem AF8:AZ.ty 106= .func:=nr rfl
theorem AF9:AZ.ty 107= .func:=nr rfl
theorem AFA:AZ.ty 108= .func:=nr rfl
theorem AFB:AZ.ty 109= .func:=nr rfl
theorem sM:AZ.ty 110= .int .u64:=nr rfl
theorem sN:AZ.known 110=true:=nr rfl
theorem sO:AZ.isStruct 110=false:=nr rfl
theorem sP:AZ.zeros 110=[.int .u64 0]:=nr rfl
theorem sQ:AZ.zero1 110= .int .u64 0:=nr rfl
theorem sU:AZ.size 110=1:=nr rfl
theorem AFC:AZ.ty 111= .func:=nr rfl
theorem AFD:AZ.ty 112= .func:=nr rfl
theorem AFE:AZ.ty 113= .func:=nr rfl
theorem AFF:AZ.ty 114= .func:=nr rfl
theorem sV:AZ.ty 115= .slice 22:=nr rfl
theorem sW:AZ.known 115=true:=nr rfl
theorem sZ:AZ.isStruct 115=false:=nr rfl
theorem su:AZ.zeros 115=[.own 22 []]:=nr rfl
theorem sw:AZ.zero1 115= .own 22 []:=nr rfl
theorem tC:AZ.size 115=1:=nr rfl
theorem AFG:AZ.ty 117= .func:=nr rfl
theorem AFH:AZ.ty 118= .func:=nr rfl
theorem AFI:AZ.ty 119= .func:=nr rfl
theorem AFJ:AZ.ty 120= .func:=nr rfl
theorem tF:AZ.ty 121= .slice 159:=nr rfl
theorem tH:AZ.known 121=true:=nr rfl
theorem tJ:AZ.isStruct 121=false:=nr rfl
theorem tL:AZ.zeros 121=[.own 159 []]:=nr rfl
theorem tN:AZ.zero1 121= .own 159 []:=nr rfl
theorem tO:AZ.size 121=1:=nr rfl
theorem AFK:AZ.ty 122= .func:=nr rfl
theorem tQ:AZ.ty 123= .slice 125:=nr rfl
theorem tT:AZ.known 123=true:=nr rfl
theorem tV:AZ.isStruct 123=false:=nr rfl
theorem tX:AZ.zeros 123=[.own 125 []]:=nr rfl
theorem tY:AZ.zero1 123= .own 125 []:=nr rfl
theorem tZ:AZ.size 123=1:=nr rfl
theorem AFL:AZ.ty 124= .struct [3,3]:=nr rfl
theorem tq:AZ.ty 125= .struct [3,3]:=nr rfl
theorem tu:AZ.known 125=true:=nr rfl
theorem u6:AZ.isStruct 125=true:=nr rfl
theorem u7:AZ.zeros 125=[.int .i64 0,.int .i64 0]:=nr rfl
theorem uA:AZ.nest 125=none:=nr rfl
theorem uB:AZ.size 125=2:=nr rfl
theorem AFM:AZ.ty 126= .func:=nr rfl
theorem AFN:AZ.ty 127= .func:=nr rfl
theorem AFO:AZ.ty 128= .func:=nr rfl
theorem AFP:AZ.ty 129= .func:=nr rfl
theorem AFQ:AZ.ty 130= .func:=nr rfl
theorem uC:AZ.ty 131= .func:=nr rfl
theorem uD:AZ.known 131=true:=nr rfl
theorem uE:AZ.isStruct 131=false:=nr rfl
theorem uF:AZ.zeros 131=[.konst .nilFunc]:=nr rfl
theorem uG:AZ.zero1 131= .konst .nilFunc:=nr rfl
theorem uH:AZ.size 131=1:=nr rfl
theorem uI:AZ.ty 132= .func:=nr rfl
theorem uJ:AZ.known 132=true:=nr rfl
theorem uK:AZ.isStruct 132=false:=nr rfl
theorem uL:AZ.zeros 132=[.konst .nilFunc]:=nr rfl
theorem uM:AZ.zero1 132= .konst .nilFunc:=nr rfl
theorem uN:AZ.size 132=1:=nr rfl
theorem AFR:AZ.ty 133= .func:=nr rfl
theorem AFS:AZ.ty 134= .func:=nr rfl
theorem uO:AZ.ty 135= .slice 137:=nr rfl
theorem uP:AZ.known 135=true:=nr rfl
theorem uQ:AZ.isStruct 135=false:=nr rfl
theorem uR:AZ.zeros 135=[.own 137 []]:=nr rfl
theorem uS:AZ.zero1 135= .own 137 []:=nr rfl
theorem uT:AZ.size 135=1:=nr rfl
theorem AFT:AZ.ty 136= .struct [3,3,3,3]:=nr rfl
theorem uU:AZ.ty 137= .struct [3,3,3,3]:=nr rfl
theorem uV:AZ.known 137=true:=nr rfl
theorem uW:AZ.isStruct 137=true:=nr rfl
theorem uX:AZ.zeros 137=[.int .i64 0,.int .i64 0,.int .i64 0,.int .i64 0]:=nr rfl
theorem uY:AZ.nest 137=none:=nr rfl
theorem uZ:AZ.size 137=4:=nr rfl
theorem AFU:AZ.ty 138= .func:=nr rfl
theorem uf:AZ.ty 139= .func:=nr rfl
theorem ug:AZ.known 139=true:=nr rfl
theorem uh:AZ.isStruct 139=false:=nr rfl
theorem uj:AZ.zeros 139=[.konst .nilFunc]:=nr rfl
theorem uk:AZ.zero1 139= .konst .nilFunc:=nr rfl
theorem ul:AZ.size 139=1:=nr rfl
theorem AFV:AZ.ty 140= .func:=nr rfl
theorem AFW:AZ.ty 141= .func:=nr rfl
theorem AFX:AZ.ty 142= .func:=nr rfl
theorem AFY:AZ.ty 143= .func:=nr rfl
theorem um:AZ.ty 144= .map 3 3:=nr rfl
theorem AFZ:AZ.ty 145= .func:=nr rfl
theorem AFa:AZ.ty 146= .func:=nr rfl
theorem AFb:AZ.ty 147= .func:=nr rfl
theorem uo:AZ.ty 148= .func:=nr rfl
theorem uq:AZ.known 148=true:=nr rfl
theorem ut:AZ.isStruct 148=false:=nr rfl
theorem uu:AZ.zeros 148=[.konst .nilFunc]:=nr rfl
theorem uw:AZ.zero1 148= .konst .nilFunc:=nr rfl
theorem uy:AZ.size 148=1:=nr rfl
theorem AFc:AZ.ty 149= .func:=nr rfl
theorem AFd:AZ.ty 150= .func:=nr rfl
theorem uz:AZ.ty 151= .int .u32:=nr rfl
theorem vB:AZ.known 151=true:=nr rfl
theorem vC:AZ.isStruct 151=false:=nr rfl
theorem vD:AZ.zeros 151=[.int .u32 0]:=nr rfl
theorem vE:AZ.zero1 151= .int .u32 0:=nr rfl
theorem vF:AZ.size 151=1:=nr rfl
theorem AFe:AZ.ty 153= .func:=nr rfl
theorem vG:AZ.ty 154= .int .u64:=nr rfl
theorem vH:AZ.known 154=true:=nr rfl
theorem vI:AZ.isStruct 154=false:=nr rfl
theorem vJ:AZ.zeros 154=[.int .u64 0]:=nr rfl
theorem vK:AZ.zero1 154= .int .u64 0:=nr rfl
theorem vL:AZ.size 154=1:=nr rfl
theorem AFf:AZ.ty 156= .func:=nr rfl
theorem AFg:AZ.ty 157= .func:=nr rfl
theorem AFh:AZ.ty 158= .func:=nr rfl
theorem vM:AZ.ty 159= .struct [3,3]:=nr rfl
theorem vN:AZ.known 159=true:=nr rfl
theorem vO:AZ.isStruct 159=true:=nr rfl
theorem vP:AZ.zeros 159=[.int .i64 0,.int .i64 0]:=nr rfl
theorem vQ:AZ.nest 159=none:=nr rfl
theorem vR:AZ.size 159=2:=nr rfl
theorem AFi:AZ.ty 160= .func:=nr rfl
theorem AFj:AZ.ty 161= .func:=nr rfl
theorem vS:AZ.ty 162= .map 164 3:=nr rfl
theorem AFk:AZ.ty 163= .arr 14 3:=nr rfl
theorem vT:AZ.ty 164= .arr 14 3:=nr rfl
theorem vU:AZ.known 164=true:=nr rfl
theorem vV:AZ.isStruct 164=true:=nr rfl
theorem vW:AZ.zeros 164=[.int .i64 0,.int .i64 0,.int .i64 0,.int .i64 0,.int .i64 0,.int .i64 0,.int .i64 0,.int .i64 0,.int .i64 0,.int .i64 0,.int .i64 0,.int .i64 0,.int .i64 0,.int .i64 0]:=nr rfl
theorem vX:AZ.nest 164=some [(0,3),(1,3),(2,3),(3,3),(4,3),(5,3),(6,3),(7,3),(8,3),(9,3),(10,3),(11,3),(12,3),(13,3)]:=nr rfl
theorem vY:AZ.size 164=14:=nr rfl
theorem AFl:AZ.ty 165= .func:=nr rfl
theorem AFm:AZ.ty 166= .func:=nr rfl
theorem vZ:AZ.ty 167= .func:=nr rfl
theorem vg:AZ.known 167=true:=nr rfl
theorem vk:AZ.isStruct 167=false:=nr rfl
theorem vo:AZ.zeros 167=[.konst .nilFunc]:=nr rfl
theorem vz:AZ.zero1 167= .konst .nilFunc:=nr rfl
theorem w9:AZ.size 167=1:=nr rfl
theorem AFn:AZ.ty 168= .func:=nr rfl
theorem AFo:AZ.ty 169= .func:=nr rfl
theorem AFp:AZ.ty 170= .func:=nr rfl
theorem AFq:AZ.ty 171= .func:=nr rfl
theorem AFr:AZ.ty 172= .func:=nr rfl
theorem AFs:AZ.ty 173= .func:=nr rfl
theorem AFt:AZ.ty 174= .func:=nr rfl
theorem AFu:AZ.ty 175= .func:=nr rfl
theorem AFv:AZ.ty 176= .func:=nr rfl
theorem AFw:AZ.ty 177= .func:=nr rfl
theorem AFx:AZ.ty 178= .func:=nr rfl
theorem AFy:AZ.ty 179= .func:=nr rfl
theorem wB:AZ.ty 180= .int .i64:=nr rfl
theorem wC:AZ.known 180=true:=nr rfl
theorem wD:AZ.isStruct 180=false:=nr rfl
theorem wE:AZ.zeros 180=[.int .i64 0]:=nr rfl
theorem wF:AZ.zero1 180= .int .i64 0:=nr rfl
theorem wG:AZ.size 180=1:=nr rfl
theorem AFz:AZ.ty 182= .func:=nr rfl
theorem AG0:AZ.ty 183= .func:=nr rfl
theorem AG1:AZ.ty 184= .func:=nr rfl
theorem AG2:AZ.ty 185= .func:=nr rfl
theorem AG3:AZ.ty 186= .func:=nr rfl
theorem wH:AZ.ty 187= .int .u64:=nr rfl
theorem wI:AZ.known 187=true:=nr rfl
theorem wJ:AZ.isStruct 187=false:=nr rfl
theorem wK:AZ.zeros 187=[.int .u64 0]:=nr rfl
theorem wL:AZ.zero1 187= .int .u64 0:=nr rfl
theorem wM:AZ.size 187=1:=nr rfl
theorem AG4:AZ.ty 188= .func:=nr rfl
theorem AG5:AZ.ty 189= .func:=nr rfl
theorem AG6:AZ.ty 190= .func:=nr rfl
theorem wN:AZ.ty 191= .ptr:=nr rfl
theorem wO:AZ.known 191=true:=nr rfl
theorem wP:AZ.isStruct 191=false:=nr rfl
theorem wQ:AZ.zeros 191=[.konst (.pointer none)]:=nr rfl
theorem wR:AZ.zero1 191= .konst (.pointer none):=nr rfl
theorem wS:AZ.size 191=1:=nr rfl
theorem AG7:AZ.ty 192= .func:=nr rfl
theorem AG8:AZ.ty 193= .ptr:=nr rfl
theorem AG9:AZ.ty 195= .func:=nr rfl
theorem AGA:AZ.ty 196= .func:=nr rfl
theorem AGB:AZ.ty 197= .struct [17,17,17,9]:=nr rfl
theorem AGC:AZ.ty 198= .struct [17,17,17,9]:=nr rfl
theorem AGD:AZ.ty 202= .func:=nr rfl
theorem AGE:AZ.ty 203= .int .u8:=nr rfl
theorem AGF:AZ.ty 204= .int .u8:=nr rfl
theorem AGG:AZ.ty 205= .func:=nr rfl
theorem AGH:AZ.ty 206= .ptr:=nr rfl
theorem AGI:AZ.ty 207= .int .i32:=nr rfl
theorem AGJ:AZ.ty 208= .int .i32:=nr rfl
theorem AGK:AZ.ty 209= .struct [12,12,151,203,5,5,204,205,206,207,208]:=nr rfl
theorem AGL:AZ.ty 210= .struct [12,12,151,203,5,5,204,205,206,207,208]:=nr rfl
theorem AGM:AZ.ty 211= .func:=nr rfl
theorem le3:lends 3=false:=nr rfl
theorem le4:lends 4=false:=nr rfl
theorem le5:lends 5=false:=nr rfl
theorem le6:lends 6=false:=nr rfl
theorem le7:lends 7=false:=nr rfl
theorem le8:lends 8=false:=nr rfl
theorem le9:lends 9=false:=nr rfl
theorem A6n:lends 10=false:=nr rfl
theorem A6o:lends 11=false:=nr rfl
theorem A6p:lends 12=false:=nr rfl
theorem A6q:lends 13=false:=nr rfl
theorem A6r:lends 14=false:=nr rfl
theorem A6s:lends 15=false:=nr rfl
theorem A6t:lends 16=true:=nr rfl
theorem A6u:lends 17=true:=nr rfl
theorem A6v:lends 18=false:=nr rfl
theorem A6w:lends 19=false:=nr rfl
theorem A6x:lends 20=false:=nr rfl
theorem A6y:lends 21=false:=nr rfl
theorem A6z:lends 22=false:=nr rfl
theorem A70:lends 23=false:=nr rfl
theorem A71:lends 24=false:=nr rfl
theorem A72:lends 25=false:=nr rfl
theorem A73:lends 26=false:=nr rfl
theorem A74:lends 27=false:=nr rfl
theorem A75:lends 28=false:=nr rfl
theorem A76:lends 29=false:=nr rfl
theorem A77:lends 30=true:=nr rfl
theorem A78:lends 31=false:=nr rfl
theorem A79:lends 32=false:=nr rfl
theorem A7A:lends 33=false:=nr rfl
theorem A7B:lends 34=true:=nr rfl
theorem A7C:lends 35=false:=nr rfl
theorem A7D:lends 36=false:=nr rfl
theorem A7E:lends 37=false:=nr rfl
theorem A7F:lends 38=false:=nr rfl
theorem A7G:lends 39=false:=nr rfl
theorem A7H:lends 40=false:=nr rfl
theorem A7I:lends 41=false:=nr rfl
theorem A7J:lends 42=false:=nr rfl
theorem A7K:lends 43=false:=nr rfl
theorem A7L:lends 44=false:=nr rfl
theorem A7M:lends 45=false:=nr rfl
theorem A7N:lends 46=false:=nr rfl
theorem A7O:lends 47=true:=nr rfl
theorem A7P:lends 48=false:=nr rfl
theorem A7Q:lends 49=true:=nr rfl
theorem A7R:lends 50=false:=nr rfl
theorem A7S:lends 51=false:=nr rfl
theorem A7T:lends 52=false:=nr rfl
theorem A7U:lends 53=false:=nr rfl
theorem A7V:lends 54=false:=nr rfl
theorem A7W:lends 55=false:=nr rfl
theorem A7X:lends 56=false:=nr rfl
theorem A7Y:lends 57=false:=nr rfl
theorem A7Z:lends 58=false:=nr rfl
theorem A7a:lends 59=false:=nr rfl
theorem A7b:lends 60=false:=nr rfl
theorem A7c:lends 61=false:=nr rfl
theorem A7d:lends 62=false:=nr rfl
theorem A7e:lends 63=false:=nr rfl
theorem A7f:lends 64=false:=nr rfl
theorem A7g:lends 65=false:=nr rfl
theorem A7h:lends 66=false:=nr rfl
theorem A7i:lends 67=false:=nr rfl
theorem A7j:lends 68=false:=nr rfl
theorem A7k:lends 69=false:=nr rfl
theorem A7l:lends 70=false:=nr rfl
theorem A7m:lends 71=false:=nr rfl
theorem A7n:lends 72=false:=nr rfl
theorem A7o:lends 73=false:=nr rfl
theorem A7p:lends 74=false:=nr rfl
theorem A7q:lends 75=false:=nr rfl
theorem A7r:lends 76=false:=nr rfl
theorem A7s:lends 77=false:=nr rfl
theorem A7t:lends 78=false:=nr rfl
theorem A7u:lends 79=true:=nr rfl
theorem A7v:lends 80=false:=nr rfl
theorem A7w:lends 81=false:=nr rfl
theorem A7x:lends 82=false:=nr rfl
theorem A7y:lends 83=false:=nr rfl
theorem A7z:lends 84=false:=nr rfl
theorem A80:lends 85=false:=nr rfl
theorem A81:lends 86=false:=nr rfl
theorem A82:lends 87=false:=nr rfl
theorem A83:lends 88=true:=nr rfl
theorem A84:lends 89=false:=nr rfl
theorem A85:lends 90=false:=nr rfl
theorem A86:lends 91=false:=nr rfl
theorem A87:lends 92=false:=nr rfl
theorem A88:lends 93=false:=nr rfl
theorem A89:lends 94=false:=nr rfl
theorem A8A:lends 95=false:=nr rfl
theorem A8B:lends 96=false:=nr rfl
theorem A8C:lends 97=false:=nr rfl
theorem A8D:lends 98=false:=nr rfl
theorem A8E:lends 99=false:=nr rfl
theorem wT:lends 100=false:=nr rfl
theorem wU:lends 101=false:=nr rfl
theorem wV:lends 102=false:=nr rfl
theorem mP:lends 103=false:=nr rfl
theorem wW:lends 104=false:=nr rfl
theorem wX:lends 105=false:=nr rfl
theorem wY:lends 106=false:=nr rfl
theorem wZ:lends 107=false:=nr rfl
theorem wh:lends 108=false:=nr rfl
theorem wm:lends 109=false:=nr rfl
theorem wo:lends 110=false:=nr rfl
theorem wu:lends 111=false:=nr rfl
theorem ww:lends 112=false:=nr rfl
theorem wy:lends 113=false:=nr rfl
theorem wz:lends 114=false:=nr rfl
theorem x8:lends 115=false:=nr rfl
theorem x9:lends 116=false:=nr rfl
theorem xA:lends 117=false:=nr rfl
theorem xB:lends 118=false:=nr rfl
theorem xC:lends 119=false:=nr rfl
theorem xD:lends 120=true:=nr rfl
theorem xE:lends 121=false:=nr rfl
theorem xF:lends 122=false:=nr rfl
theorem xG:lends 123=false:=nr rfl
theorem xH:lends 124=false:=nr rfl
theorem xI:lends 125=false:=nr rfl
theorem xJ:lends 126=false:=nr rfl
theorem xK:lends 127=false:=nr rfl
theorem xL:lends 128=true:=nr rfl
theorem xM:lends 129=false:=nr rfl
theorem xN:lends 130=false:=nr rfl
theorem xO:lends 131=false:=nr rfl
theorem xP:lends 132=false:=nr rfl
theorem xQ:lends 133=false:=nr rfl
theorem xR:lends 134=false:=nr rfl
theorem xS:lends 135=false:=nr rfl
theorem xU:lends 136=false:=nr rfl
theorem xV:lends 137=false:=nr rfl
theorem xW:lends 138=false:=nr rfl
theorem xX:lends 139=false:=nr rfl
theorem xY:lends 140=false:=nr rfl
theorem xZ:lends 141=false:=nr rfl
theorem xc:lends 142=false:=nr rfl
theorem xe:lends 143=false:=nr rfl
theorem xf:lends 144=false:=nr rfl
theorem mQ:lends 145=false:=nr rfl
theorem xg:lends 146=false:=nr rfl
theorem xh:lends 147=false:=nr rfl
theorem xk:lends 148=false:=nr rfl
theorem xm:lends 149=false:=nr rfl
theorem xn:lends 150=false:=nr rfl
theorem xq:lends 151=false:=nr rfl
theorem xu:lends 152=true:=nr rfl
theorem xw:lends 153=false:=nr rfl
theorem xx:lends 154=false:=nr rfl
theorem xy:lends 155=false:=nr rfl
theorem xz:lends 156=false:=nr rfl
theorem y5:lends 157=false:=nr rfl
theorem y7:lends 158=false:=nr rfl
theorem y8:lends 159=false:=nr rfl
theorem y9:lends 160=false:=nr rfl
theorem yA:lends 161=false:=nr rfl
theorem yB:lends 162=false:=nr rfl
theorem yC:lends 163=false:=nr rfl
theorem yD:lends 164=false:=nr rfl
theorem yE:lends 165=false:=nr rfl
theorem yF:lends 166=false:=nr rfl
theorem yG:lends 167=false:=nr rfl
theorem yH:lends 168=false:=nr rfl
theorem yI:lends 169=false:=nr rfl
theorem mR:lends 170=false:=nr rfl
theorem yJ:lends 171=false:=nr rfl
theorem yK:lends 172=false:=nr rfl
theorem yM:lends 173=false:=nr rfl
theorem yN:lends 174=false:=nr rfl
theorem yO:lends 175=false:=nr rfl
theorem yP:lends 176=false:=nr rfl
theorem yQ:lends 177=false:=nr rfl
theorem yR:lends 178=false:=nr rfl
theorem yS:lends 179=false:=nr rfl
theorem yU:lends 180=false:=nr rfl
theorem yV:lends 181=false:=nr rfl
theorem yX:lends 182=false:=nr rfl
theorem yY:lends 183=false:=nr rfl
theorem yZ:lends 184=false:=nr rfl
theorem yc:lends 185=false:=nr rfl
theorem yf:lends 186=false:=nr rfl
theorem yg:lends 187=false:=nr rfl
theorem yh:lends 188=false:=nr rfl
theorem yj:lends 189=false:=nr rfl
theorem yl:lends 190=false:=nr rfl
theorem ym:lends 191=false:=nr rfl
theorem yn:lends 192=false:=nr rfl
theorem yo:lends 193=false:=nr rfl
theorem yt:lends 194=false:=nr rfl
theorem yu:lends 195=false:=nr rfl
theorem yw:lends 196=false:=nr rfl
theorem yx:lends 197=false:=nr rfl
theorem yz:lends 198=false:=nr rfl
theorem z8:lends 199=false:=nr rfl
theorem zA:lends 200=false:=nr rfl
theorem zC:lends 201=false:=nr rfl
theorem zD:lends 202=false:=nr rfl
theorem zF:lends 203=false:=nr rfl
theorem zG:lends 204=false:=nr rfl
theorem zH:lends 205=false:=nr rfl
theorem zI:lends 206=false:=nr rfl
theorem zJ:lends 207=false:=nr rfl
theorem zK:lends 208=false:=nr rfl
theorem zL:lends 209=false:=nr rfl
theorem zM:lends 210=false:=nr rfl
theorem zN:lends 211=false:=nr rfl
theorem zO:lends 212=false:=nr rfl
theorem zP:lends 213=true:=nr rfl
theorem zQ:lends 214=false:=nr rfl
theorem zR:lends 215=false:=nr rfl
set_option maxRecDepth 100000 in
theorem qO:Bn Try.prog AZ:=A0J (by kernel_rfl)
theorem mixed:Try.prog.follows .mixedOrders=true:=by kernel_rfl
noncomputable def Y0:Dv.Sys:={P:=Try.prog,T:=AZ,lends:=lends,base:=fun _ _ _=>none}
theorem ACn:Dv.Sys.Ok Y0:=⟨qO,mixed,fun _ _ _ _ _ h=>by cases h⟩
theorem ACo(T:Tys)(s:St)(t:TypeId):ev T s t (.const .nilFunc)=some (.konst .nilFunc):=nr rfl
theorem ACp(T:Tys)(s:St)(t:TypeId):ev T s t (.const .nilIface)=some (.konst .nilIface):=nr rfl
theorem ACq(T:Tys)(s:St)(t:TypeId):ev T s t (.const (.pointer none))=some (.konst (.pointer none)):=nr rfl
theorem y0T:Y0.T=AZ:=nr rfl
theorem y0L:Y0.lends=lends:=nr rfl
set_option maxRecDepth 10000 in
set_option linter.defProp false in
def A8F:=
 A7 @y0T (
 A7 @y0L (
 A7 @ty3 (
 A7 @ty4 (
 A7 @ty5 (
 A7 @A15 (
 A7 @A16 (
 A7 @A17 (
 A7 @A5X (
 A7 @A5d (
 A7 @A5j (
 A7 @A5p (
 A7 @A5v (
 A7 @A61 (
 A7 @A67 (
 A7 @A6D (
 A7 @A6J (
 A7 @A6P (
 A7 @A6V (
 A7 @A6b (
 A7 @A6h (
 A7 @sM (
 A7 @sV (
 A7 @tF (
 A7 @tQ (
 A7 @tq (
 A7 @uC (
 A7 @uI (
 A7 @uO (
 A7 @uU (
 A7 @uf (
 A7 @um (
 A7 @uo (
 A7 @uz (
 A7 @vG (
 A7 @vM (
 A7 @vS (
 A7 @vT (
 A7 @vZ (
 A7 @wB (
 A7 @wH (
 A7 @wN (
 A7 @kn3 (
 A7 @st3 (
 A7 @sz3 (
 A7 @zr3 (
 A7 @kn4 (
 A7 @st4 (
 A7 @sz4 (
 A7 @zr4 (
 A7 @kn5 (
 A7 @st5 (
 A7 @sz5 (
 A7 @zr5 (
 A7 @A5K (
 A7 @A5L (
 A7 @A5O (
 A7 @A5M (
 A7 @A5P (
 A7 @A5Q (
 A7 @A5T (
 A7 @A5R (
 A7 @A18 (
 A7 @A5U (
 A7 @A19 (
 A7 @A5V (
 A7 @A5Y (
 A7 @A5Z (
 A7 @A5c (
 A7 @A5a (
 A7 @A5e (
 A7 @A5f (
 A7 @A5i (
 A7 @A5g (
 A7 @A5k (
 A7 @A5l (
 A7 @A5o (
 A7 @A5m (
 A7 @A5q (
 A7 @A5r (
 A7 @A5u (
 A7 @A5s (
 A7 @A5w (
 A7 @A5x (
 A7 @A60 (
 A7 @A5y (
 A7 @A62 (
 A7 @A63 (
 A7 @A66 (
 A7 @A64 (
 A7 @A68 (
 A7 @A69 (
 A7 @A6C (
 A7 @A6A (
 A7 @A6E (
 A7 @A6F (
 A7 @A6I (
 A7 @A6G (
 A7 @A6K (
 A7 @A6L (
 A7 @A6O (
 A7 @A6M (
 A7 @A6Q (
 A7 @A6R (
 A7 @A6U (
 A7 @A6S (
 A7 @A6W (
 A7 @A6X (
 A7 @A6a (
 A7 @A6Y (
 A7 @A6c (
 A7 @A6d (
 A7 @A6g (
 A7 @A6e (
 A7 @A6i (
 A7 @A6j (
 A7 @A6m (
 A7 @A6k (
 A7 @sN (
 A7 @sO (
 A7 @sU (
 A7 @sP (
 A7 @sW (
 A7 @sZ (
 A7 @tC (
 A7 @su (
 A7 @tH (
 A7 @tJ (
 A7 @tO (
 A7 @tL (
 A7 @tT (
 A7 @tV (
 A7 @tZ (
 A7 @tX (
 A7 @tu (
 A7 @u6 (
 A7 @uB (
 A7 @u7 (
 A7 @uD (
 A7 @uE (
 A7 @uH (
 A7 @uF (
 A7 @uJ (
 A7 @uK (
 A7 @uN (
 A7 @uL (
 A7 @uP (
 A7 @uQ (
 A7 @uT (
 A7 @uR (
 A7 @uV (
 A7 @uW (
 A7 @uZ (
 A7 @uX (
 A7 @ug (
 A7 @uh (
 A7 @ul (
 A7 @uj (
 A7 @uq (
 A7 @ut (
 A7 @uy (
 A7 @uu (
 A7 @vB (
 A7 @vC (
 A7 @vF (
 A7 @vD (
 A7 @vH (
 A7 @vI (
 A7 @vL (
 A7 @vJ (
 A7 @vN (
 A7 @vO (
 A7 @vR (
 A7 @vP (
 A7 @vU (
 A7 @vV (
 A7 @vY (
 A7 @vW (
 A7 @vg (
 A7 @vk (
 A7 @w9 (
 A7 @vo (
 A7 @wC (
 A7 @wD (
 A7 @wG (
 A7 @wE (
 A7 @wI (
 A7 @wJ (
 A7 @wM (
 A7 @wK (
 A7 @wO (
 A7 @wP (
 A7 @wS (
 A7 @wQ (
 A7 @A5S (
 A7 @A5b (
 A7 @A5n (
 A7 @A5z (
 A7 @A65 (
 A7 @A6B (
 A7 @A6N (
 A7 @A6Z (
 A7 @uA (
 A7 @uY (
 A7 @vQ (
 A7 @vX (
 A7 @mG (
 A7 @mH (
 A7 @mI (
 A7 @mJ (
 A7 @mK (
 A7 @mM (
 A7 @mO (
 A7 @zo3 (
 A7 @zo4 (
 A7 @zo5 (
 A7 @A5N (
 A7 @A5W (
 A7 @A5h (
 A7 @A5t (
 A7 @A6H (
 A7 @A6T (
 A7 @A6f (
 A7 @A6l (
 A7 @sQ (
 A7 @sw (
 A7 @tN (
 A7 @tY (
 A7 @uG (
 A7 @uM (
 A7 @uS (
 A7 @uk (
 A7 @uw (
 A7 @vE (
 A7 @vK (
 A7 @vz (
 A7 @wF (
 A7 @wL (
 A7 @wR (
 A7 @le3 (
 A7 @le4 (
 A7 @le5 (
 A7 @le6 (
 A7 @le7 (
 A7 @le8 (
 A7 @le9 (
 A7 @A6n (
 A7 @A6o (
 A7 @A6p (
 A7 @A6q (
 A7 @A6r (
 A7 @A6s (
 A7 @A6t (
 A7 @A6u (
 A7 @A6v (
 A7 @A6w (
 A7 @A6x (
 A7 @A6y (
 A7 @A6z (
 A7 @A70 (
 A7 @A71 (
 A7 @A72 (
 A7 @A73 (
 A7 @A74 (
 A7 @A75 (
 A7 @A76 (
 A7 @A77 (
 A7 @A78 (
 A7 @A79 (
 A7 @A7A (
 A7 @A7B (
 A7 @A7C (
 A7 @A7D (
 A7 @A7E (
 A7 @A7F (
 A7 @A7G (
 A7 @A7H (
 A7 @A7I (
 A7 @A7J (
 A7 @A7K (
 A7 @A7L (
 A7 @A7M (
 A7 @A7N (
 A7 @A7O (
 A7 @A7P (
 A7 @A7Q (
 A7 @A7R (
 A7 @A7S (
 A7 @A7T (
 A7 @A7U (
 A7 @A7V (
 A7 @A7W (
 A7 @A7X (
 A7 @A7Y (
 A7 @A7Z (
 A7 @A7a (
 A7 @A7b (
 A7 @A7c (
 A7 @A7d (
 A7 @A7e (
 A7 @A7f (
 A7 @A7g (
 A7 @A7h (
 A7 @A7i (
 A7 @A7j (
 A7 @A7k (
 A7 @A7l (
 A7 @A7m (
 A7 @A7n (
 A7 @A7o (
 A7 @A7p (
 A7 @A7q (
 A7 @A7r (
 A7 @A7s (
 A7 @A7t (
 A7 @A7u (
 A7 @A7v (
 A7 @A7w (
 A7 @A7x (
 A7 @A7y (
 A7 @A7z (
 A7 @A80 (
 A7 @A81 (
 A7 @A82 (
 A7 @A83 (
 A7 @A84 (
 A7 @A85 (
 A7 @A86 (
 A7 @A87 (
 A7 @A88 (
 A7 @A89 (
 A7 @A8A (
 A7 @A8B (
 A7 @A8C (
 A7 @A8D (
 A7 @A8E (
 A7 @wT (
 A7 @wU (
 A7 @wV (
 A7 @mP (
 A7 @wW (
 A7 @wX (
 A7 @wY (
 A7 @wZ (
 A7 @wh (
 A7 @wm (
 A7 @wo (
 A7 @wu (
 A7 @ww (
 A7 @wy (
 A7 @wz (
 A7 @x8 (
 A7 @x9 (
 A7 @xA (
 A7 @xB (
 A7 @xC (
 A7 @xD (
 A7 @xE (
 A7 @xF (
 A7 @xG (
 A7 @xH (
 A7 @xI (
 A7 @xJ (
 A7 @xK (
 A7 @xL (
 A7 @xM (
 A7 @xN (
 A7 @xO (
 A7 @xP (
 A7 @xQ (
 A7 @xR (
 A7 @xS (
 A7 @xU (
 A7 @xV (
 A7 @xW (
 A7 @xX (
 A7 @xY (
 A7 @xZ (
 A7 @xc (
 A7 @xe (
 A7 @xf (
 A7 @mQ (
 A7 @xg (
 A7 @xh (
 A7 @xk (
 A7 @xm (
 A7 @xn (
 A7 @xq (
 A7 @xu (
 A7 @xw (
 A7 @xx (
 A7 @xy (
 A7 @xz (
 A7 @y5 (
 A7 @y7 (
 A7 @y8 (
 A7 @y9 (
 A7 @yA (
 A7 @yB (
 A7 @yC (
 A7 @yD (
 A7 @yE (
 A7 @yF (
 A7 @yG (
 A7 @yH (
 A7 @yI (
 A7 @mR (
 A7 @yJ (
 A7 @yK (
 A7 @yM (
 A7 @yN (
 A7 @yO (
 A7 @yP (
 A7 @yQ (
 A7 @yR (
 A7 @yS (
 A7 @yU (
 A7 @yV (
 A7 @yX (
 A7 @yY (
 A7 @yZ (
 A7 @yc (
 A7 @yf (
 A7 @yg (
 A7 @yh (
 A7 @yj (
 A7 @yl (
 A7 @ym (
 A7 @yn (
 A7 @yo (
 A7 @yt (
 A7 @yu (
 A7 @yw (
 A7 @yx (
 A7 @yz (
 A7 @z8 (
 A7 @zA (
 A7 @zC (
 A7 @zD (
 A7 @zF (
 A7 @zG (
 A7 @zH (
 A7 @zI (
 A7 @zJ (
 A7 @zK (
 A7 @zL (
 A7 @zM (
 A7 @zN (
 A7 @zO (
 A7 @zP (
 A7 @zQ (@zR)))))))))))))))))))))))))))))))))))))))))))))))))))))))))))))))))))))))))))))))))))))))))))))))))))))))))))))))))))))))))))))))))))))))))))))))))))))))))))))))))))))))))))))))))))))))))))))))))))))))))))))))))))))))))))))))))))))))))))))))))))))))))))))))))))))))))))))))))))))))))))))))))))))))))))))))))))))))))))))))))))))))))))))))))))))))))))))))))))))))))))))))))))))))))))))))))))))))))))))))))))))))))))))))))))))))))))))))))))))))))))))))))))
def mU:SC:= .seq (.ops [oX 2 (.assign (.const (.slice none 0 0))) 26]) (.seq (.seq (.ops [oM 3 0 26,oB 4 .eql 26 (tK 3) (.const (.slice none 0 0)) 26 4]) (.cond (tK 4) (.seq (.ops [oX 2 (.assign (.const (.slice none 0 0))) 26]) .ret) .skip)) (.seq (.ops [oX 5 (.buildSlice 26 0 #[]) 26,oM 6 0 26,oX 7 (.call ⟨(.builtin .append), #[(tK 5),(tK 6)], #[26,26]⟩) 26,oA 2 7 26]) .ret))
theorem fM:Try.f121.body.map (Bt lends)=some mU:=by kernel_rfl
theorem zS:CW Try.f121 1=true:=by kernel_rfl
theorem df(A:Option Addr)(c:Nat):Y0.call 121 [.konst (.slice A 0 c)] []=some (.own 3 [],[]):=by
 refine AY (Y:=Y0) rfl Try.func121 zS fM ?_;show CU Y0.env mU (Gq AZ 0 [ResultVar.tmp 2] _) _
 unfold mU
 cases A<;>simp only [↓AQ,ll,A8F,implies_true,Dh,Li,Option.isSome_some,↓reduceIte,Nat.reduceEqDiff,Nat.reduceLT,Nat.reduceLeDiff,Nat.reduceAdd,Nat.reduceMul,Nat.reduceMod,Nat.reduceSub,List.contains_cons,List.contains_nil,Nat.reduceBEq,List.getD_cons_zero,List.getD_cons_succ,List.getD_nil,KZ,Oy,List.size_toArray,List.toList_toArray,List.zip_cons_cons,List.zip_nil_left,La,Je,L9,OY,List.map_nil,gT,List.replicate_zero,List.set_cons_zero,Yk,List.set_set,PU,List.any_cons,List.any_nil,List.all_nil,OW,QX,List.getElem?_nil,List.range_zero,beq_self_eq_true,Int.reduceLE,Int.reduceLT,Int.reduceEq,Int.reduceSub,Int.reduceAdd,Int.reduceToNat,Int.reduceNeg,Option.isNone_none,Option.isNone_some]
theorem qP:Dv.Good Try.prog AZ 121 [.sl 3 []] [] (.own 3 []) []:=dO kn3 (fun A c=>Dv.Sys.call_good ACn (df A c))
def mV(f:FuncId)(a l:List D):Option (D×List D):=
 match f,a,l with
 |121,[.sl 3 []],[]=>some (.own 3 [],[])
 |_,_,_=>none
theorem qQ: ∀f a l r outs,mV f a l=some (r,outs)→Dv.Good Try.prog AZ f a l r outs:=by
 intro f a l r outs h;unfold mV at h
 split at h
 ·simp only [Option.some.injEq,Prod.mk.injEq]at h;obtain⟨rfl,rfl⟩:=h;exact qP
 ·cases h
theorem mW: ∀zs:AU,zs.length<4611686018427387904→Dv.Good Try.prog AZ 152 [.vw [100000] 0 0] [.own 3 (II zs)] (.tup []) [.own 3 (II (JE zs))]:=fun zs h=>
 jO ⟨Try.f152,Try.func152,rfl,by decide⟩ sz3 (fun blk off cap zs w h1 h2 h3=>Try.slices_Sort_int blk off cap zs w h1 h2 h3) (fun p cap w=>Try.slices_Sort_int_none p cap w) zs h
theorem dh: ∀zs:AU,zs.length<1099511627776→Dv.Good Try.prog AZ 115 [.clo 155 [.cptr [.sl 3 (II zs)]]] [] (.own 3 (II (JE zs))) []:=fun zs h=>
 aB ⟨Try.f115,Try.func115,rfl,by decide⟩ sz3
  (fun p ad cap w h1 h2=>callsIn_wide.1 (Go.Proofs.sv.sorted_in 5 (Hq _) p _ [] (by decide) (by decide) w h1 h2 (.inl ⟨ad,cap,rfl,rfl⟩)))
  (fun p b off cap zs w h0 h1 h2 h3 h4=>callsIn_wide.1 (Go.Proofs.sv.sorted_in 5 (Hq _) p _ zs (by have:maxLen=9223372036854775807:=rfl;omega) (by omega) w h1 h2 (.inr ⟨b,off,cap,rfl,h3,h4⟩))) zs h
theorem aF: ∀n:Nat,n<1099511627776→Dv.Good Try.prog AZ 100 [.konst (.slice none 0 0),.int .i64 n] [] (.own 26 []) []:=fun n h=>
 dZ (ρ:=Try.laysGrow100_ren) qO Try.laysGrow100 ⟨Try.f100,Try.func100,rfl,by decide⟩ A18 A19 n h
noncomputable def Y:Dv.Sys:={P:=Try.prog,T:=AZ,lends:=lends,base:=PH (Ni 100 26) (PH (PH mV (Ng 152 3)) (Kr 115 155 3))}
theorem yOk:Dv.Sys.Ok Y:=⟨qO,mixed,Nh (Vq aF) (Nh (Nh qQ (Vn mW)) (SH dh))⟩
theorem mX:AZ.ty 900013= .other:=nr rfl
theorem yT:Y.T=AZ:=nr rfl
theorem yL:Y.lends=lends:=nr rfl
set_option maxRecDepth 10000 in
set_option linter.defProp false in
def A8G:=
 A7 @mX (
 A7 @yT (
 A7 @yL (
 A7 @ACo (
 A7 @ACp (
 A7 @ACq (
 A7 @ty3 (
 A7 @ty4 (
 A7 @ty5 (
 A7 @A15 (
 A7 @A16 (
 A7 @A17 (
 A7 @A5X (
 A7 @A5d (
 A7 @A5j (
 A7 @A5p (
 A7 @A5v (
 A7 @A61 (
 A7 @A67 (
 A7 @A6D (
 A7 @A6J (
 A7 @A6P (
 A7 @A6V (
 A7 @A6b (
 A7 @A6h (
 A7 @sM (
 A7 @sV (
 A7 @tF (
 A7 @tQ (
 A7 @tq (
 A7 @uC (
 A7 @uI (
 A7 @uO (
 A7 @uU (
 A7 @uf (
 A7 @um (
 A7 @uo (
 A7 @uz (
 A7 @vG (
 A7 @vM (
 A7 @vS (
 A7 @vT (
 A7 @vZ (
 A7 @wB (
 A7 @wH (
 A7 @wN (
 A7 @kn3 (
 A7 @st3 (
 A7 @sz3 (
 A7 @zr3 (
 A7 @kn4 (
 A7 @st4 (
 A7 @sz4 (
 A7 @zr4 (
 A7 @kn5 (
 A7 @st5 (
 A7 @sz5 (
 A7 @zr5 (
 A7 @A5K (
 A7 @A5L (
 A7 @A5O (
 A7 @A5M (
 A7 @A5P (
 A7 @A5Q (
 A7 @A5T (
 A7 @A5R (
 A7 @A18 (
 A7 @A5U (
 A7 @A19 (
 A7 @A5V (
 A7 @A5Y (
 A7 @A5Z (
 A7 @A5c (
 A7 @A5a (
 A7 @A5e (
 A7 @A5f (
 A7 @A5i (
 A7 @A5g (
 A7 @A5k (
 A7 @A5l (
 A7 @A5o (
 A7 @A5m (
 A7 @A5q (
 A7 @A5r (
 A7 @A5u (
 A7 @A5s (
 A7 @A5w (
 A7 @A5x (
 A7 @A60 (
 A7 @A5y (
 A7 @A62 (
 A7 @A63 (
 A7 @A66 (
 A7 @A64 (
 A7 @A68 (
 A7 @A69 (
 A7 @A6C (
 A7 @A6A (
 A7 @A6E (
 A7 @A6F (
 A7 @A6I (
 A7 @A6G (
 A7 @A6K (
 A7 @A6L (
 A7 @A6O (
 A7 @A6M (
 A7 @A6Q (
 A7 @A6R (
 A7 @A6U (
 A7 @A6S (
 A7 @A6W (
 A7 @A6X (
 A7 @A6a (
 A7 @A6Y (
 A7 @A6c (
 A7 @A6d (
 A7 @A6g (
 A7 @A6e (
 A7 @A6i (
 A7 @A6j (
 A7 @A6m (
 A7 @A6k (
 A7 @sN (
 A7 @sO (
 A7 @sU (
 A7 @sP (
 A7 @sW (
 A7 @sZ (
 A7 @tC (
 A7 @su (
 A7 @tH (
 A7 @tJ (
 A7 @tO (
 A7 @tL (
 A7 @tT (
 A7 @tV (
 A7 @tZ (
 A7 @tX (
 A7 @tu (
 A7 @u6 (
 A7 @uB (
 A7 @u7 (
 A7 @uD (
 A7 @uE (
 A7 @uH (
 A7 @uF (
 A7 @uJ (
 A7 @uK (
 A7 @uN (
 A7 @uL (
 A7 @uP (
 A7 @uQ (
 A7 @uT (
 A7 @uR (
 A7 @uV (
 A7 @uW (
 A7 @uZ (
 A7 @uX (
 A7 @ug (
 A7 @uh (
 A7 @ul (
 A7 @uj (
 A7 @uq (
 A7 @ut (
 A7 @uy (
 A7 @uu (
 A7 @vB (
 A7 @vC (
 A7 @vF (
 A7 @vD (
 A7 @vH (
 A7 @vI (
 A7 @vL (
 A7 @vJ (
 A7 @vN (
 A7 @vO (
 A7 @vR (
 A7 @vP (
 A7 @vU (
 A7 @vV (
 A7 @vY (
 A7 @vW (
 A7 @vg (
 A7 @vk (
 A7 @w9 (
 A7 @vo (
 A7 @wC (
 A7 @wD (
 A7 @wG (
 A7 @wE (
 A7 @wI (
 A7 @wJ (
 A7 @wM (
 A7 @wK (
 A7 @wO (
 A7 @wP (
 A7 @wS (
 A7 @wQ (
 A7 @A5S (
 A7 @A5b (
 A7 @A5n (
 A7 @A5z (
 A7 @A65 (
 A7 @A6B (
 A7 @A6N (
 A7 @A6Z (
 A7 @uA (
 A7 @uY (
 A7 @vQ (
 A7 @vX (
 A7 @mG (
 A7 @mH (
 A7 @mI (
 A7 @mJ (
 A7 @mK (
 A7 @mM (
 A7 @mO (
 A7 @zo3 (
 A7 @zo4 (
 A7 @zo5 (
 A7 @A5N (
 A7 @A5W (
 A7 @A5h (
 A7 @A5t (
 A7 @A6H (
 A7 @A6T (
 A7 @A6f (
 A7 @A6l (
 A7 @sQ (
 A7 @sw (
 A7 @tN (
 A7 @tY (
 A7 @uG (
 A7 @uM (
 A7 @uS (
 A7 @uk (
 A7 @uw (
 A7 @vE (
 A7 @vK (
 A7 @vz (
 A7 @wF (
 A7 @wL (
 A7 @wR (
 A7 @le3 (
 A7 @le4 (
 A7 @le5 (
 A7 @le6 (
 A7 @le7 (
 A7 @le8 (
 A7 @le9 (
 A7 @A6n (
 A7 @A6o (
 A7 @A6p (
 A7 @A6q (
 A7 @A6r (
 A7 @A6s (
 A7 @A6t (
 A7 @A6u (
 A7 @A6v (
 A7 @A6w (
 A7 @A6x (
 A7 @A6y (
 A7 @A6z (
 A7 @A70 (
 A7 @A71 (
 A7 @A72 (
 A7 @A73 (
 A7 @A74 (
 A7 @A75 (
 A7 @A76 (
 A7 @A77 (
 A7 @A78 (
 A7 @A79 (
 A7 @A7A (
 A7 @A7B (
 A7 @A7C (
 A7 @A7D (
 A7 @A7E (
 A7 @A7F (
 A7 @A7G (
 A7 @A7H (
 A7 @A7I (
 A7 @A7J (
 A7 @A7K (
 A7 @A7L (
 A7 @A7M (
 A7 @A7N (
 A7 @A7O (
 A7 @A7P (
 A7 @A7Q (
 A7 @A7R (
 A7 @A7S (
 A7 @A7T (
 A7 @A7U (
 A7 @A7V (
 A7 @A7W (
 A7 @A7X (
 A7 @A7Y (
 A7 @A7Z (
 A7 @A7a (
 A7 @A7b (
 A7 @A7c (
 A7 @A7d (
 A7 @A7e (
 A7 @A7f (
 A7 @A7g (
 A7 @A7h (
 A7 @A7i (
 A7 @A7j (
 A7 @A7k (
 A7 @A7l (
 A7 @A7m (
 A7 @A7n (
 A7 @A7o (
 A7 @A7p (
 A7 @A7q (
 A7 @A7r (
 A7 @A7s (
 A7 @A7t (
 A7 @A7u (
 A7 @A7v (
 A7 @A7w (
 A7 @A7x (
 A7 @A7y (
 A7 @A7z (
 A7 @A80 (
 A7 @A81 (
 A7 @A82 (
 A7 @A83 (
 A7 @A84 (
 A7 @A85 (
 A7 @A86 (
 A7 @A87 (
 A7 @A88 (
 A7 @A89 (
 A7 @A8A (
 A7 @A8B (
 A7 @A8C (
 A7 @A8D (
 A7 @A8E (
 A7 @wT (
 A7 @wU (
 A7 @wV (
 A7 @mP (
 A7 @wW (
 A7 @wX (
 A7 @wY (
 A7 @wZ (
 A7 @wh (
 A7 @wm (
 A7 @wo (
 A7 @wu (
 A7 @ww (
 A7 @wy (
 A7 @wz (
 A7 @x8 (
 A7 @x9 (
 A7 @xA (
 A7 @xB (
 A7 @xC (
 A7 @xD (
 A7 @xE (
 A7 @xF (
 A7 @xG (
 A7 @xH (
 A7 @xI (
 A7 @xJ (
 A7 @xK (
 A7 @xL (
 A7 @xM (
 A7 @xN (
 A7 @xO (
 A7 @xP (
 A7 @xQ (
 A7 @xR (
 A7 @xS (
 A7 @xU (
 A7 @xV (
 A7 @xW (
 A7 @xX (
 A7 @xY (
 A7 @xZ (
 A7 @xc (
 A7 @xe (
 A7 @xf (
 A7 @mQ (
 A7 @xg (
 A7 @xh (
 A7 @xk (
 A7 @xm (
 A7 @xn (
 A7 @xq (
 A7 @xu (
 A7 @xw (
 A7 @xx (
 A7 @xy (
 A7 @xz (
 A7 @y5 (
 A7 @y7 (
 A7 @y8 (
 A7 @y9 (
 A7 @yA (
 A7 @yB (
 A7 @yC (
 A7 @yD (
 A7 @yE (
 A7 @yF (
 A7 @yG (
 A7 @yH (
 A7 @yI (
 A7 @mR (
 A7 @yJ (
 A7 @yK (
 A7 @yM (
 A7 @yN (
 A7 @yO (
 A7 @yP (
 A7 @yQ (
 A7 @yR (
 A7 @yS (
 A7 @yU (
 A7 @yV (
 A7 @yX (
 A7 @yY (
 A7 @yZ (
 A7 @yc (
 A7 @yf (
 A7 @yg (
 A7 @yh (
 A7 @yj (
 A7 @yl (
 A7 @ym (
 A7 @yn (
 A7 @yo (
 A7 @yt (
 A7 @yu (
 A7 @yw (
 A7 @yx (
 A7 @yz (
 A7 @z8 (
 A7 @zA (
 A7 @zC (
 A7 @zD (
 A7 @zF (
 A7 @zG (
 A7 @zH (
 A7 @zI (
 A7 @zJ (
 A7 @zK (
 A7 @zL (
 A7 @zM (
 A7 @zN (
 A7 @zO (
 A7 @zP (
 A7 @zQ (@zR)))))))))))))))))))))))))))))))))))))))))))))))))))))))))))))))))))))))))))))))))))))))))))))))))))))))))))))))))))))))))))))))))))))))))))))))))))))))))))))))))))))))))))))))))))))))))))))))))))))))))))))))))))))))))))))))))))))))))))))))))))))))))))))))))))))))))))))))))))))))))))))))))))))))))))))))))))))))))))))))))))))))))))))))))))))))))))))))))))))))))))))))))))))))))))))))))))))))))))))))))))))))))))))))))))))))))))))))))))))))))))))))))))))))
theorem mY(n:Int)(h:0≤n∧n<1099511627776):Y.call 100 [.konst (.slice none 0 0),.int .i64 n] []=some (.own 26 [],[]):=Dv.Sys.call_base (Rs<|aD 100 26 n h)
theorem dm(zs:AU)(h:zs.length<1099511627776):Y.call 115 [.clo 155 [.cptr [.sl 3 (AP (D.int .i64) zs)]]] []=some (.own 3 (AP (D.int .i64) (JE zs)),[]):=Dv.Sys.call_base ((Vo 115 155 3 zs h))
theorem A8H(zs:AU)(h:zs.length<4611686018427387904):Y.call 152 [.vw [100000] 0 0] [.own 3 (AP (D.int .i64) zs)]=some (.tup [],[.own 3 (AP (D.int .i64) (JE zs))]):=Dv.Sys.call_base (Rs<|(Zz 152 3 zs h))
theorem A2S(xs:List D)(h:xs.length<1099511627776)(hs:xs.all DC=true)(ho:Ae xs=false)(hf:(Dj (.own 3 xs)).isSome=true):Y.call 121 [.sl 3 xs] []=some (.own 3 xs,[]):=by
 cases xs with
 |nil=>exact Dv.Sys.call_base rfl
 |cons x xs=>
  refine AY (Y:=Y) rfl Try.func121 zS fM ?_;show CU Y.env mU (Gq AZ 0 [ResultVar.tmp 2] _) _
  unfold mU;have h0:0+(x::xs).length<1099511627776:=by omega
  simp only [KZ,JS]at h0;simp only [PU,fF]at hs ho;simp only [↓AQ,ll,A8G,implies_true,Dh,Li,Option.isSome_some,↓reduceIte,Nat.reduceEqDiff,Nat.reduceLT,Nat.reduceLeDiff,Nat.reduceAdd,Nat.reduceMul,Nat.reduceMod,Nat.reduceSub,List.contains_cons,List.contains_nil,Nat.reduceBEq,List.getD_cons_zero,List.getD_cons_succ,List.getD_nil,KZ,Oy,List.size_toArray,List.toList_toArray,List.zip_cons_cons,List.zip_nil_left,La,Je,L9,OY,List.map_nil,gT,List.replicate_zero,List.set_cons_zero,Yk,List.set_set,PU,List.any_cons,List.any_nil,List.all_nil,OW,QX,List.getElem?_nil,List.range_zero,beq_self_eq_true,Int.reduceLE,Int.reduceLT,Int.reduceEq,Int.reduceSub,Int.reduceAdd,Int.reduceToNat,Int.reduceNeg,JS,h0,hs,ho];simp only [sI,fG]at hf;rw [if_pos hf]
set_option linter.defProp false in
def AR:=A7 ll (A7 ACl (A7 xc2 (A7 A5J A8G)))
abbrev CO:AU→D:=fun x=>D.sl 3 (AP (D.int .i64) x)
abbrev VU:AU→D:=fun x=>D.own 3 (AP (D.int .i64) x)
abbrev CX:Op:= .assign (.const (.bool false))
abbrev Iy:Op:= .assign (.const (.slice none 0 0))
abbrev H6:Operand:= .const (.bool true)
abbrev UU:Op:= .assign (.const (.int .i64 (-1)))
abbrev OZ:Operand:= .const (.bool false)
end Go.Proofs.Ytclkfhhdikfcpaa
