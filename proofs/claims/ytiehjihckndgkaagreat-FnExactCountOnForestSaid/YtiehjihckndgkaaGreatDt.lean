/- The types of this seat as data, and the system of its calls. Conditions: none. -/
import Derived.Test.YtiehjihckndgkaaGreatRows
import Derived.Test.YtiehjihckndgkaaGreatL6
import Derived.Test.YtiehjihckndgkaaGreatSv
import Derived.KernelRfl
namespace Go.Proofs.YtiehjihckndgkaaGreat
open Go Dv
set_option linter.unusedSimpArgs false
set_option maxRecDepth 100000
def tab:List Ty:=[.other,.func,.int .i64,.int .i64,.bool,.int .u8,.int .u8,.struct [2,3,4,6],.struct [2,3,4,6],.string,.string,.string,.int .u64,.struct [9,12],.struct [9,12],.ptr,.ptr,.ptr,.struct [17],.struct [17],.other,.int .i32,.slice 26,.struct [3,3,22,22],.struct [3,3,22,22],.slice 78,.slice 3,.struct [25,26,26],.struct [25,26,26],.func,.func,.func,.other,.func,.struct [3,3,22,22],.func,.slice 79,.struct [36,26,26],.struct [36,26,26],.func,.func,.func,.func,.func,.func,.func,.func,.func,.func,.other,.func,.func,.func,.func,.other,.func,.func,.func,.func,.func,.func,.func,.func,.func,.func,.func,.func,.func,.func,.func,.func,.func,.func,.func,.struct [3,3,22,22,36,26,26],.struct [3,3,22,22,36,26,26],.func,.func,.slice 111,.slice 87,.func,.func,.int .u64,.func,.func,.func,.struct [3,3],.struct [3,3],.func,.func,.func,.ptr,.struct [3,3,22,22,36,26,26,22],.struct [3,3,22,22,36,26,26,22],.func,.func,.func,.slice 101,.func,.func,.struct [3,3,3,3],.struct [3,3,3,3],.func,.func,.func,.func,.func,.func,.func,.func,.func,.struct [3,3],.func,.func,.func,.func,.func,.func,.func,.other,.func,.func,.func,.func,.func,.func,.func,.func,.func,.func,.func,.func,.int .u32,.other,.func,.int .u64,.other,.func,.func,.func,.func,.func,.func,.func,.func,.func,.int .i64,.other,.func,.func,.func,.func,.func,.slice 155,.func,.slice 4,.func,.int .u64,.func,.func,.func,.ptr,.func,.func,.ptr,.other,.func,.func,.struct [17,17,17,9],.struct [17,17,17,9],.other,.other,.other,.func,.int .u8,.int .u8,.func,.ptr,.int .i32,.int .i32,.struct [12,12,132,174,5,5,175,176,177,178,179],.struct [12,12,132,174,5,5,175,176,177,178,179]]
def nst:List (TypeId×List (Nat×TypeId)):=[(74,[(0,34),(4,38)]),(75,[(0,34),(4,38)]),(92,[(0,34),(4,38),(7,22)]),(93,[(0,34),(4,38),(7,22)])]
def Ap:Tys:=zQ tab nst
def lends(f:FuncId):Bool:=[18,19,20,27,44,73,76,100].contains f
theorem ty1:Ap.ty 1= .func:=nr rfl
theorem ty2:Ap.ty 2= .int .i64:=nr rfl
theorem ty3:Ap.ty 3= .int .i64:=nr rfl
theorem kn3:Ap.known 3=true:=nr rfl
theorem st3:Ap.isStruct 3=false:=nr rfl
theorem zr3:Ap.zeros 3=[.int .i64 0]:=nr rfl
theorem zo3:Ap.zero1 3= .int .i64 0:=nr rfl
theorem sz3:Ap.size 3=1:=nr rfl
theorem ty4:Ap.ty 4= .bool:=nr rfl
theorem kn4:Ap.known 4=true:=nr rfl
theorem st4:Ap.isStruct 4=false:=nr rfl
theorem zr4:Ap.zeros 4=[.bool false]:=nr rfl
theorem zo4:Ap.zero1 4= .bool false:=nr rfl
theorem sz4:Ap.size 4=1:=nr rfl
theorem ty5:Ap.ty 5= .int .u8:=nr rfl
theorem kn5:Ap.known 5=true:=nr rfl
theorem st5:Ap.isStruct 5=false:=nr rfl
theorem zr5:Ap.zeros 5=[.int .u8 0]:=nr rfl
theorem zo5:Ap.zero1 5= .int .u8 0:=nr rfl
theorem sz5:Ap.size 5=1:=nr rfl
theorem ty6:Ap.ty 6= .int .u8:=nr rfl
theorem ty7:Ap.ty 7= .struct [2,3,4,6]:=nr rfl
theorem ty8:Ap.ty 8= .struct [2,3,4,6]:=nr rfl
theorem ty9:Ap.ty 9= .string:=nr rfl
theorem ASW:Ap.ty 10= .string:=nr rfl
theorem ASX:Ap.ty 11= .string:=nr rfl
theorem ASY:Ap.ty 12= .int .u64:=nr rfl
theorem ASZ:Ap.ty 13= .struct [9,12]:=nr rfl
theorem ASa:Ap.ty 14= .struct [9,12]:=nr rfl
theorem ASb:Ap.ty 15= .ptr:=nr rfl
theorem ASc:Ap.ty 16= .ptr:=nr rfl
theorem ASd:Ap.ty 17= .ptr:=nr rfl
theorem ASe:Ap.ty 18= .struct [17]:=nr rfl
theorem ASf:Ap.ty 19= .struct [17]:=nr rfl
theorem ASg:Ap.ty 21= .int .i32:=nr rfl
theorem A9X:Ap.ty 22= .slice 26:=nr rfl
theorem AEa:Ap.known 22=true:=nr rfl
theorem AEb:Ap.isStruct 22=false:=nr rfl
theorem AEc:Ap.zeros 22=[.own 26 []]:=nr rfl
theorem AEd:Ap.zero1 22= .own 26 []:=nr rfl
theorem AEe:Ap.size 22=1:=nr rfl
theorem ASh:Ap.ty 23= .struct [3,3,22,22]:=nr rfl
theorem A9Y:Ap.ty 24= .struct [3,3,22,22]:=nr rfl
theorem AEf:Ap.known 24=true:=nr rfl
theorem AEg:Ap.isStruct 24=true:=nr rfl
theorem AEh:Ap.zeros 24=[.int .i64 0,.int .i64 0,.own 26 [],.own 26 []]:=nr rfl
theorem AEi:Ap.nest 24=none:=nr rfl
theorem AEj:Ap.size 24=4:=nr rfl
theorem A9Z:Ap.ty 25= .slice 78:=nr rfl
theorem AEk:Ap.known 25=true:=nr rfl
theorem AEl:Ap.isStruct 25=false:=nr rfl
theorem AEm:Ap.zeros 25=[.own 78 []]:=nr rfl
theorem AEn:Ap.zero1 25= .own 78 []:=nr rfl
theorem AEo:Ap.size 25=1:=nr rfl
theorem A48:Ap.ty 26= .slice 3:=nr rfl
theorem AEp:Ap.known 26=true:=nr rfl
theorem AEq:Ap.isStruct 26=false:=nr rfl
theorem AEr:Ap.zeros 26=[.own 3 []]:=nr rfl
theorem AEs:Ap.zero1 26= .own 3 []:=nr rfl
theorem AEt:Ap.size 26=1:=nr rfl
theorem ASi:Ap.ty 27= .struct [25,26,26]:=nr rfl
theorem A9a:Ap.ty 28= .struct [25,26,26]:=nr rfl
theorem AEu:Ap.known 28=true:=nr rfl
theorem AEv:Ap.isStruct 28=true:=nr rfl
theorem AEw:Ap.zeros 28=[.own 78 [],.own 3 [],.own 3 []]:=nr rfl
theorem AEx:Ap.nest 28=none:=nr rfl
theorem AEy:Ap.size 28=3:=nr rfl
theorem ASj:Ap.ty 29= .func:=nr rfl
theorem ASk:Ap.ty 30= .func:=nr rfl
theorem ASl:Ap.ty 31= .func:=nr rfl
theorem ASm:Ap.ty 33= .func:=nr rfl
theorem AEz:Ap.ty 34= .struct [3,3,22,22]:=nr rfl
theorem AF0:Ap.known 34=true:=nr rfl
theorem AF1:Ap.isStruct 34=true:=nr rfl
theorem AF2:Ap.zeros 34=[.int .i64 0,.int .i64 0,.own 26 [],.own 26 []]:=nr rfl
theorem AF3:Ap.nest 34=none:=nr rfl
theorem AF4:Ap.size 34=4:=nr rfl
theorem ASn:Ap.ty 35= .func:=nr rfl
theorem AF5:Ap.ty 36= .slice 79:=nr rfl
theorem AF6:Ap.known 36=true:=nr rfl
theorem AF7:Ap.isStruct 36=false:=nr rfl
theorem AF8:Ap.zeros 36=[.own 79 []]:=nr rfl
theorem AF9:Ap.zero1 36= .own 79 []:=nr rfl
theorem AFA:Ap.size 36=1:=nr rfl
theorem ASo:Ap.ty 37= .struct [36,26,26]:=nr rfl
theorem AFB:Ap.ty 38= .struct [36,26,26]:=nr rfl
theorem AFC:Ap.known 38=true:=nr rfl
theorem AFD:Ap.isStruct 38=true:=nr rfl
theorem AFE:Ap.zeros 38=[.own 79 [],.own 3 [],.own 3 []]:=nr rfl
theorem AFF:Ap.nest 38=none:=nr rfl
theorem AFG:Ap.size 38=3:=nr rfl
theorem ASp:Ap.ty 39= .func:=nr rfl
theorem ASq:Ap.ty 40= .func:=nr rfl
theorem ASr:Ap.ty 41= .func:=nr rfl
theorem ASs:Ap.ty 42= .func:=nr rfl
theorem ASt:Ap.ty 43= .func:=nr rfl
theorem ASu:Ap.ty 44= .func:=nr rfl
theorem ASv:Ap.ty 45= .func:=nr rfl
theorem ASw:Ap.ty 46= .func:=nr rfl
theorem ASx:Ap.ty 47= .func:=nr rfl
theorem ASy:Ap.ty 48= .func:=nr rfl
theorem ASz:Ap.ty 50= .func:=nr rfl
theorem AT0:Ap.ty 51= .func:=nr rfl
theorem AT1:Ap.ty 52= .func:=nr rfl
theorem AT2:Ap.ty 53= .func:=nr rfl
theorem AT3:Ap.ty 55= .func:=nr rfl
theorem AT4:Ap.ty 56= .func:=nr rfl
theorem AT5:Ap.ty 57= .func:=nr rfl
theorem AT6:Ap.ty 58= .func:=nr rfl
theorem AT7:Ap.ty 59= .func:=nr rfl
theorem AT8:Ap.ty 60= .func:=nr rfl
theorem AT9:Ap.ty 61= .func:=nr rfl
theorem ATA:Ap.ty 62= .func:=nr rfl
theorem ATB:Ap.ty 63= .func:=nr rfl
theorem ATC:Ap.ty 64= .func:=nr rfl
theorem ATD:Ap.ty 65= .func:=nr rfl
theorem ATE:Ap.ty 66= .func:=nr rfl
theorem ATF:Ap.ty 67= .func:=nr rfl
theorem ATG:Ap.ty 68= .func:=nr rfl
theorem ATH:Ap.ty 69= .func:=nr rfl
theorem ATI:Ap.ty 70= .func:=nr rfl
theorem ATJ:Ap.ty 71= .func:=nr rfl
theorem ATK:Ap.ty 72= .func:=nr rfl
theorem ATL:Ap.ty 73= .func:=nr rfl
theorem ATM:Ap.ty 74= .struct [3,3,22,22,36,26,26]:=nr rfl
theorem AFH:Ap.ty 75= .struct [3,3,22,22,36,26,26]:=nr rfl
theorem AFI:Ap.known 75=true:=nr rfl
theorem AFJ:Ap.isStruct 75=true:=nr rfl
theorem AFK:Ap.zeros 75=[.int .i64 0,.int .i64 0,.own 26 [],.own 26 [],.own 79 [],.own 3 [],.own 3 []]:=nr rfl
theorem AFL:Ap.nest 75=some [(0,34),(4,38)]:=nr rfl
theorem A1e:Ap.foff 75 0=some 0:=nr rfl
theorem A1f:Ap.foff 75 1=some 4:=nr rfl
theorem AFM:Ap.size 75=7:=nr rfl
theorem ATN:Ap.ty 76= .func:=nr rfl
theorem ATO:Ap.ty 77= .func:=nr rfl
theorem A9b:Ap.ty 78= .slice 111:=nr rfl
theorem AFN:Ap.known 78=true:=nr rfl
theorem AFO:Ap.isStruct 78=false:=nr rfl
theorem AFP:Ap.zeros 78=[.own 111 []]:=nr rfl
theorem AFQ:Ap.zero1 78= .own 111 []:=nr rfl
theorem AFR:Ap.size 78=1:=nr rfl
theorem AFS:Ap.ty 79= .slice 87:=nr rfl
theorem AFT:Ap.known 79=true:=nr rfl
theorem AFU:Ap.isStruct 79=false:=nr rfl
theorem AFV:Ap.zeros 79=[.own 87 []]:=nr rfl
theorem AFW:Ap.zero1 79= .own 87 []:=nr rfl
theorem AFX:Ap.size 79=1:=nr rfl
theorem ATP:Ap.ty 80= .func:=nr rfl
theorem ATQ:Ap.ty 81= .func:=nr rfl
theorem AFY:Ap.ty 82= .int .u64:=nr rfl
theorem AFZ:Ap.known 82=true:=nr rfl
theorem AFa:Ap.isStruct 82=false:=nr rfl
theorem AFb:Ap.zeros 82=[.int .u64 0]:=nr rfl
theorem AFc:Ap.zero1 82= .int .u64 0:=nr rfl
theorem AFd:Ap.size 82=1:=nr rfl
theorem ATR:Ap.ty 83= .func:=nr rfl
theorem ATS:Ap.ty 84= .func:=nr rfl
theorem ATT:Ap.ty 85= .func:=nr rfl
theorem ATU:Ap.ty 86= .struct [3,3]:=nr rfl
theorem AFe:Ap.ty 87= .struct [3,3]:=nr rfl
theorem AFf:Ap.known 87=true:=nr rfl
theorem AFg:Ap.isStruct 87=true:=nr rfl
theorem AFh:Ap.zeros 87=[.int .i64 0,.int .i64 0]:=nr rfl
theorem AFi:Ap.nest 87=none:=nr rfl
theorem AFj:Ap.size 87=2:=nr rfl
theorem ATV:Ap.ty 88= .func:=nr rfl
theorem ATW:Ap.ty 89= .func:=nr rfl
theorem AFk:Ap.ty 90= .func:=nr rfl
theorem AFl:Ap.known 90=true:=nr rfl
theorem AFm:Ap.isStruct 90=false:=nr rfl
theorem AFn:Ap.zeros 90=[.konst .nilFunc]:=nr rfl
theorem AFo:Ap.zero1 90= .konst .nilFunc:=nr rfl
theorem AFp:Ap.size 90=1:=nr rfl
theorem AFq:Ap.ty 91= .ptr:=nr rfl
theorem AFr:Ap.known 91=true:=nr rfl
theorem AFs:Ap.isStruct 91=false:=nr rfl
theorem AFt:Ap.zeros 91=[.konst (.pointer none)]:=nr rfl
theorem AFu:Ap.zero1 91= .konst (.pointer none):=nr rfl
theorem AFv:Ap.size 91=1:=nr rfl
theorem ATX:Ap.ty 92= .struct [3,3,22,22,36,26,26,22]:=nr rfl
theorem AFw:Ap.ty 93= .struct [3,3,22,22,36,26,26,22]:=nr rfl
theorem AFx:Ap.known 93=true:=nr rfl
theorem AFy:Ap.isStruct 93=true:=nr rfl
theorem AFz:Ap.zeros 93=[.int .i64 0,.int .i64 0,.own 26 [],.own 26 [],.own 79 [],.own 3 [],.own 3 [],.own 26 []]:=nr rfl
theorem AG0:Ap.nest 93=some [(0,34),(4,38),(7,22)]:=nr rfl
theorem A1g:Ap.foff 93 0=some 0:=nr rfl
theorem A1h:Ap.foff 93 1=some 4:=nr rfl
theorem A1i:Ap.foff 93 2=some 7:=nr rfl
theorem AG1:Ap.size 93=8:=nr rfl
theorem ATY:Ap.ty 94= .func:=nr rfl
theorem ATZ:Ap.ty 95= .func:=nr rfl
theorem ATa:Ap.ty 96= .func:=nr rfl
theorem AG2:Ap.ty 97= .slice 101:=nr rfl
theorem AG3:Ap.known 97=true:=nr rfl
theorem AG4:Ap.isStruct 97=false:=nr rfl
theorem AG5:Ap.zeros 97=[.own 101 []]:=nr rfl
theorem AG6:Ap.zero1 97= .own 101 []:=nr rfl
theorem AG7:Ap.size 97=1:=nr rfl
theorem ATb:Ap.ty 98= .func:=nr rfl
theorem ATc:Ap.ty 99= .func:=nr rfl
theorem APj:Ap.ty 100= .struct [3,3,3,3]:=nr rfl
theorem A5F:Ap.ty 101= .struct [3,3,3,3]:=nr rfl
theorem A5G:Ap.known 101=true:=nr rfl
theorem A5H:Ap.isStruct 101=true:=nr rfl
theorem A5I:Ap.zeros 101=[.int .i64 0,.int .i64 0,.int .i64 0,.int .i64 0]:=nr rfl
theorem A5J:Ap.nest 101=none:=nr rfl
theorem A5K:Ap.size 101=4:=nr rfl
theorem A5L:Ap.ty 102= .func:=nr rfl
theorem A5M:Ap.known 102=true:=nr rfl
theorem A5N:Ap.isStruct 102=false:=nr rfl
theorem A5O:Ap.zeros 102=[.konst .nilFunc]:=nr rfl
theorem A5P:Ap.zero1 102= .konst .nilFunc:=nr rfl
theorem A5Q:Ap.size 102=1:=nr rfl
theorem APk:Ap.ty 103= .func:=nr rfl
theorem APl:Ap.ty 104= .func:=nr rfl
theorem A5R:Ap.ty 105= .func:=nr rfl
theorem A5S:Ap.known 105=true:=nr rfl
theorem A5T:Ap.isStruct 105=false:=nr rfl
theorem A5U:Ap.zeros 105=[.konst .nilFunc]:=nr rfl
theorem A5V:Ap.zero1 105= .konst .nilFunc:=nr rfl
theorem A5W:Ap.size 105=1:=nr rfl
theorem APm:Ap.ty 106= .func:=nr rfl
theorem APn:Ap.ty 107= .func:=nr rfl
theorem APo:Ap.ty 108= .func:=nr rfl
theorem APp:Ap.ty 109= .func:=nr rfl
theorem APq:Ap.ty 110= .func:=nr rfl
theorem A1j:Ap.ty 111= .struct [3,3]:=nr rfl
theorem A5X:Ap.known 111=true:=nr rfl
theorem A5Y:Ap.isStruct 111=true:=nr rfl
theorem A5Z:Ap.zeros 111=[.int .i64 0,.int .i64 0]:=nr rfl
theorem A5a:Ap.nest 111=none:=nr rfl
theorem A5b:Ap.size 111=2:=nr rfl
theorem A5c:Ap.ty 112= .func:=nr rfl
theorem A5d:Ap.known 112=true:=nr rfl
theorem A5e:Ap.isStruct 112=false:=nr rfl
theorem A5f:Ap.zeros 112=[.konst .nilFunc]:=nr rfl
theorem A5g:Ap.zero1 112= .konst .nilFunc:=nr rfl
theorem A5h:Ap.size 112=1:=nr rfl
theorem APr:Ap.ty 113= .func:=nr rfl
theorem APs:Ap.ty 114= .func:=nr rfl
theorem APt:Ap.ty 115= .func:=nr rfl
theorem APu:Ap.ty 116= .func:=nr rfl
theorem APv:Ap.ty 117= .func:=nr rfl
theorem APw:Ap.ty 118= .func:=nr rfl
theorem APx:Ap.ty 120= .func:=nr rfl
theorem APy:Ap.ty 121= .func:=nr rfl
theorem APz:Ap.ty 122= .func:=nr rfl
theorem AQ0:Ap.ty 123= .func:=nr rfl
theorem A5i:Ap.ty 124= .func:=nr rfl
theorem A5j:Ap.known 124=true:=nr rfl
theorem A5k:Ap.isStruct 124=false:=nr rfl
theorem A5l:Ap.zeros 124=[.konst .nilFunc]:=nr rfl
theorem A5m:Ap.zero1 124= .konst .nilFunc:=nr rfl
theorem A5n:Ap.size 124=1:=nr rfl
theorem AQ1:Ap.ty 125= .func:=nr rfl
theorem AQ2:Ap.ty 126= .func:=nr rfl
theorem AQ3:Ap.ty 127= .func:=nr rfl
theorem AQ4:Ap.ty 128= .func:=nr rfl
theorem AQ5:Ap.ty 129= .func:=nr rfl
theorem AQ6:Ap.ty 130= .func:=nr rfl
theorem AQ7:Ap.ty 131= .func:=nr rfl
theorem A5o:Ap.ty 132= .int .u32:=nr rfl
theorem A5p:Ap.known 132=true:=nr rfl
theorem A5q:Ap.isStruct 132=false:=nr rfl
theorem A5r:Ap.zeros 132=[.int .u32 0]:=nr rfl
theorem A5s:Ap.zero1 132= .int .u32 0:=nr rfl
theorem A5t:Ap.size 132=1:=nr rfl
theorem AQ8:Ap.ty 134= .func:=nr rfl
theorem A5u:Ap.ty 135= .int .u64:=nr rfl
theorem A5v:Ap.known 135=true:=nr rfl
theorem A5w:Ap.isStruct 135=false:=nr rfl
theorem A5x:Ap.zeros 135=[.int .u64 0]:=nr rfl
theorem A5y:Ap.zero1 135= .int .u64 0:=nr rfl
theorem A5z:Ap.size 135=1:=nr rfl
theorem AQ9:Ap.ty 137= .func:=nr rfl
theorem AQA:Ap.ty 138= .func:=nr rfl
theorem AQB:Ap.ty 139= .func:=nr rfl
theorem AQC:Ap.ty 140= .func:=nr rfl
theorem A60:Ap.ty 141= .func:=nr rfl
theorem A61:Ap.known 141=true:=nr rfl
theorem A62:Ap.isStruct 141=false:=nr rfl
theorem A63:Ap.zeros 141=[.konst .nilFunc]:=nr rfl
theorem A64:Ap.zero1 141= .konst .nilFunc:=nr rfl
theorem A65:Ap.size 141=1:=nr rfl
theorem A66:Ap.ty 142= .func:=nr rfl
theorem A67:Ap.known 142=true:=nr rfl
theorem A68:Ap.isStruct 142=false:=nr rfl
theorem A69:Ap.zeros 142=[.konst .nilFunc]:=nr rfl
theorem A6A:Ap.zero1 142= .konst .nilFunc:=nr rfl
theorem A6B:Ap.size 142=1:=nr rfl
theorem AQD:Ap.ty 143= .func:=nr rfl
theorem AQE:Ap.ty 144= .func:=nr rfl
theorem AQF:Ap.ty 145= .func:=nr rfl
theorem A6C:Ap.ty 146= .int .i64:=nr rfl
theorem A6D:Ap.known 146=true:=nr rfl
theorem A6E:Ap.isStruct 146=false:=nr rfl
theorem A6F:Ap.zeros 146=[.int .i64 0]:=nr rfl
theorem A6G:Ap.zero1 146= .int .i64 0:=nr rfl
theorem A6H:Ap.size 146=1:=nr rfl
theorem AQG:Ap.ty 148= .func:=nr rfl
theorem AQH:Ap.ty 149= .func:=nr rfl
theorem AQI:Ap.ty 150= .func:=nr rfl
theorem AQJ:Ap.ty 151= .func:=nr rfl
theorem AQK:Ap.ty 152= .func:=nr rfl
theorem A6I:Ap.ty 153= .slice 155:=nr rfl
theorem A6J:Ap.known 153=true:=nr rfl
theorem A6K:Ap.isStruct 153=false:=nr rfl
theorem A6L:Ap.zeros 153=[.own 155 []]:=nr rfl
theorem A6M:Ap.zero1 153= .own 155 []:=nr rfl
theorem A6N:Ap.size 153=1:=nr rfl
theorem AQL:Ap.ty 154= .func:=nr rfl
theorem A6O:Ap.ty 155= .slice 4:=nr rfl
theorem A6P:Ap.known 155=true:=nr rfl
theorem A6Q:Ap.isStruct 155=false:=nr rfl
theorem A6R:Ap.zeros 155=[.own 4 []]:=nr rfl
theorem A6S:Ap.zero1 155= .own 4 []:=nr rfl
theorem A6T:Ap.size 155=1:=nr rfl
theorem AQM:Ap.ty 156= .func:=nr rfl
theorem A6U:Ap.ty 157= .int .u64:=nr rfl
theorem A6V:Ap.known 157=true:=nr rfl
theorem A6W:Ap.isStruct 157=false:=nr rfl
theorem A6X:Ap.zeros 157=[.int .u64 0]:=nr rfl
theorem A6Y:Ap.zero1 157= .int .u64 0:=nr rfl
theorem A6Z:Ap.size 157=1:=nr rfl
theorem AQN:Ap.ty 158= .func:=nr rfl
theorem AQO:Ap.ty 159= .func:=nr rfl
theorem AQP:Ap.ty 160= .func:=nr rfl
theorem A6a:Ap.ty 161= .ptr:=nr rfl
theorem A6b:Ap.known 161=true:=nr rfl
theorem A6c:Ap.isStruct 161=false:=nr rfl
theorem A6d:Ap.zeros 161=[.konst (.pointer none)]:=nr rfl
theorem A6e:Ap.zero1 161= .konst (.pointer none):=nr rfl
theorem A6f:Ap.size 161=1:=nr rfl
theorem AQQ:Ap.ty 162= .func:=nr rfl
theorem AQR:Ap.ty 163= .func:=nr rfl
theorem AQS:Ap.ty 164= .ptr:=nr rfl
theorem AQT:Ap.ty 166= .func:=nr rfl
theorem AQU:Ap.ty 167= .func:=nr rfl
theorem AQV:Ap.ty 168= .struct [17,17,17,9]:=nr rfl
theorem AQW:Ap.ty 169= .struct [17,17,17,9]:=nr rfl
theorem AQX:Ap.ty 173= .func:=nr rfl
theorem AQY:Ap.ty 174= .int .u8:=nr rfl
theorem AQZ:Ap.ty 175= .int .u8:=nr rfl
theorem AQa:Ap.ty 176= .func:=nr rfl
theorem AQb:Ap.ty 177= .ptr:=nr rfl
theorem AQc:Ap.ty 178= .int .i32:=nr rfl
theorem AQd:Ap.ty 179= .int .i32:=nr rfl
theorem AQe:Ap.ty 180= .struct [12,12,132,174,5,5,175,176,177,178,179]:=nr rfl
theorem AQf:Ap.ty 181= .struct [12,12,132,174,5,5,175,176,177,178,179]:=nr rfl
theorem le3:lends 3=false:=nr rfl
theorem le4:lends 4=false:=nr rfl
theorem le5:lends 5=false:=nr rfl
theorem le6:lends 6=false:=nr rfl
theorem le7:lends 7=false:=nr rfl
theorem le8:lends 8=false:=nr rfl
theorem le9:lends 9=false:=nr rfl
theorem AG8:lends 10=false:=nr rfl
theorem AG9:lends 11=false:=nr rfl
theorem AGA:lends 12=false:=nr rfl
theorem AGB:lends 13=false:=nr rfl
theorem AGC:lends 14=false:=nr rfl
theorem AGD:lends 15=false:=nr rfl
theorem AGE:lends 16=false:=nr rfl
theorem AGF:lends 17=false:=nr rfl
theorem AGG:lends 18=true:=nr rfl
theorem AGH:lends 19=true:=nr rfl
theorem AGI:lends 20=true:=nr rfl
theorem AGJ:lends 21=false:=nr rfl
theorem AGK:lends 22=false:=nr rfl
theorem AGL:lends 23=false:=nr rfl
theorem AGM:lends 24=false:=nr rfl
theorem AGN:lends 25=false:=nr rfl
theorem AGO:lends 26=false:=nr rfl
theorem AGP:lends 27=true:=nr rfl
theorem AGQ:lends 28=false:=nr rfl
theorem AGR:lends 29=false:=nr rfl
theorem AGS:lends 30=false:=nr rfl
theorem AGT:lends 31=false:=nr rfl
theorem AGU:lends 32=false:=nr rfl
theorem AGV:lends 33=false:=nr rfl
theorem AGW:lends 34=false:=nr rfl
theorem AGX:lends 35=false:=nr rfl
theorem AGY:lends 36=false:=nr rfl
theorem AGZ:lends 37=false:=nr rfl
theorem AGa:lends 38=false:=nr rfl
theorem AGb:lends 39=false:=nr rfl
theorem AGc:lends 40=false:=nr rfl
theorem AGd:lends 41=false:=nr rfl
theorem AGe:lends 42=false:=nr rfl
theorem AGf:lends 43=false:=nr rfl
theorem AGg:lends 44=true:=nr rfl
theorem AGh:lends 45=false:=nr rfl
theorem AGi:lends 46=false:=nr rfl
theorem AGj:lends 47=false:=nr rfl
theorem AGk:lends 48=false:=nr rfl
theorem AGl:lends 49=false:=nr rfl
theorem AGm:lends 50=false:=nr rfl
theorem AGn:lends 51=false:=nr rfl
theorem AGo:lends 52=false:=nr rfl
theorem AGp:lends 53=false:=nr rfl
theorem AGq:lends 54=false:=nr rfl
theorem AGr:lends 55=false:=nr rfl
theorem AGs:lends 56=false:=nr rfl
theorem AGt:lends 57=false:=nr rfl
theorem AGu:lends 58=false:=nr rfl
theorem AGv:lends 59=false:=nr rfl
theorem AGw:lends 60=false:=nr rfl
theorem AGx:lends 61=false:=nr rfl
theorem AGy:lends 62=false:=nr rfl
theorem AGz:lends 63=false:=nr rfl
theorem AH0:lends 64=false:=nr rfl
theorem AH1:lends 65=false:=nr rfl
theorem AH2:lends 66=false:=nr rfl
theorem AH3:lends 67=false:=nr rfl
theorem AH4:lends 68=false:=nr rfl
theorem AH5:lends 69=false:=nr rfl
theorem AH6:lends 70=false:=nr rfl
theorem AH7:lends 71=false:=nr rfl
theorem AH8:lends 72=false:=nr rfl
theorem AH9:lends 73=true:=nr rfl
theorem AHA:lends 74=false:=nr rfl
theorem AHB:lends 75=false:=nr rfl
theorem AHC:lends 76=true:=nr rfl
theorem AHD:lends 77=false:=nr rfl
theorem AHE:lends 78=false:=nr rfl
theorem AHF:lends 79=false:=nr rfl
theorem A9c:lends 80=false:=nr rfl
theorem AHG:lends 81=false:=nr rfl
theorem AHH:lends 82=false:=nr rfl
theorem AHI:lends 83=false:=nr rfl
theorem AHJ:lends 84=false:=nr rfl
theorem AHK:lends 85=false:=nr rfl
theorem AHL:lends 86=false:=nr rfl
theorem AHM:lends 87=false:=nr rfl
theorem AHN:lends 88=false:=nr rfl
theorem AHO:lends 89=false:=nr rfl
theorem AHP:lends 90=false:=nr rfl
theorem AHQ:lends 91=false:=nr rfl
theorem AHR:lends 92=false:=nr rfl
theorem AHS:lends 93=false:=nr rfl
theorem AHT:lends 94=false:=nr rfl
theorem AHU:lends 95=false:=nr rfl
theorem AHV:lends 96=false:=nr rfl
theorem AHW:lends 97=false:=nr rfl
theorem A9d:lends 98=false:=nr rfl
theorem AHX:lends 99=false:=nr rfl
theorem A6g:lends 100=true:=nr rfl
theorem A6h:lends 101=false:=nr rfl
theorem A6i:lends 102=false:=nr rfl
theorem A6j:lends 103=false:=nr rfl
theorem A1k:lends 104=false:=nr rfl
theorem A6k:lends 105=false:=nr rfl
theorem A6l:lends 106=false:=nr rfl
theorem A6m:lends 107=false:=nr rfl
theorem A6n:lends 108=false:=nr rfl
theorem A6o:lends 109=false:=nr rfl
theorem A6p:lends 110=false:=nr rfl
theorem A6q:lends 111=false:=nr rfl
theorem A6r:lends 112=false:=nr rfl
theorem A6s:lends 113=false:=nr rfl
theorem A6t:lends 114=false:=nr rfl
theorem A6u:lends 115=false:=nr rfl
theorem A6v:lends 116=false:=nr rfl
theorem A6w:lends 117=false:=nr rfl
theorem A6x:lends 118=false:=nr rfl
theorem A6y:lends 119=false:=nr rfl
theorem A6z:lends 120=false:=nr rfl
theorem A70:lends 121=false:=nr rfl
theorem A71:lends 122=false:=nr rfl
theorem A72:lends 123=false:=nr rfl
theorem A73:lends 124=false:=nr rfl
theorem A74:lends 125=false:=nr rfl
theorem A75:lends 126=false:=nr rfl
theorem A76:lends 127=false:=nr rfl
theorem A77:lends 128=false:=nr rfl
theorem A78:lends 129=false:=nr rfl
theorem A79:lends 130=false:=nr rfl
theorem A7A:lends 131=false:=nr rfl
theorem A7B:lends 132=false:=nr rfl
theorem A7C:lends 133=false:=nr rfl
theorem A7D:lends 134=false:=nr rfl
theorem A7E:lends 135=false:=nr rfl
theorem A7F:lends 136=false:=nr rfl
theorem A7G:lends 137=false:=nr rfl
theorem A7H:lends 138=false:=nr rfl
theorem A7I:lends 139=false:=nr rfl
theorem A7J:lends 140=false:=nr rfl
theorem A7K:lends 141=false:=nr rfl
theorem A7L:lends 142=false:=nr rfl
theorem A7M:lends 143=false:=nr rfl
theorem A7N:lends 144=false:=nr rfl
theorem A7O:lends 145=false:=nr rfl
theorem A7P:lends 146=false:=nr rfl
theorem A7Q:lends 147=false:=nr rfl
theorem A7R:lends 148=false:=nr rfl
theorem A7S:lends 149=false:=nr rfl
theorem A7T:lends 150=false:=nr rfl
theorem A7U:lends 151=false:=nr rfl
theorem A7V:lends 152=false:=nr rfl
theorem A7W:lends 153=false:=nr rfl
theorem A7X:lends 154=false:=nr rfl
theorem A7Y:lends 155=false:=nr rfl
theorem A7Z:lends 156=false:=nr rfl
theorem A7a:lends 157=false:=nr rfl
theorem A7b:lends 158=false:=nr rfl
theorem A7c:lends 159=false:=nr rfl
theorem A7d:lends 160=false:=nr rfl
theorem A7e:lends 161=false:=nr rfl
theorem A7f:lends 162=false:=nr rfl
theorem A7g:lends 163=false:=nr rfl
theorem A7h:lends 164=false:=nr rfl
theorem A7i:lends 165=false:=nr rfl
theorem A7j:lends 166=false:=nr rfl
theorem A7k:lends 167=false:=nr rfl
theorem A7l:lends 168=false:=nr rfl
theorem A7m:lends 169=false:=nr rfl
theorem A7n:lends 170=false:=nr rfl
theorem A7o:lends 171=false:=nr rfl
theorem A7p:lends 172=false:=nr rfl
theorem A7q:lends 173=false:=nr rfl
theorem A7r:lends 174=false:=nr rfl
theorem A7s:lends 175=false:=nr rfl
theorem A7t:lends 176=false:=nr rfl
theorem A7u:lends 177=false:=nr rfl
theorem A7v:lends 178=false:=nr rfl
theorem A7w:lends 179=false:=nr rfl
theorem A7x:lends 180=false:=nr rfl
theorem A7y:lends 181=false:=nr rfl
set_option maxRecDepth 100000 in
theorem A9e:Cx Tryz.prog Ap:=A8d (by kernel_rfl)
theorem mixed:Tryz.prog.follows .mixedOrders=true:=by kernel_rfl
noncomputable def Y0:Dv.Sys:={P:=Tryz.prog,T:=Ap,lends:=lends,base:=fun _ _ _=>none}
theorem AMO:Dv.Sys.Ok Y0:=⟨A9e,mixed,fun _ _ _ _ _ h=>by cases h⟩
theorem AMP(T:Tys)(s:St)(t:TypeId):ev T s t (.const .nilFunc)=some (.konst .nilFunc):=nr rfl
theorem AMQ(T:Tys)(s:St)(t:TypeId):ev T s t (.const .nilIface)=some (.konst .nilIface):=nr rfl
theorem AMR(T:Tys)(s:St)(t:TypeId):ev T s t (.const (.pointer none))=some (.konst (.pointer none)):=nr rfl
theorem y0T:Y0.T=Ap:=nr rfl
theorem y0L:Y0.lends=lends:=nr rfl
set_option maxRecDepth 10000 in
set_option linter.defProp false in
def AHY:=
 A7 @y0T (
 A7 @y0L (
 A7 @ty3 (
 A7 @ty4 (
 A7 @ty5 (
 A7 @A9X (
 A7 @A9Y (
 A7 @A9Z (
 A7 @A48 (
 A7 @A9a (
 A7 @AEz (
 A7 @AF5 (
 A7 @AFB (
 A7 @AFH (
 A7 @A9b (
 A7 @AFS (
 A7 @AFY (
 A7 @AFe (
 A7 @AFk (
 A7 @AFq (
 A7 @AFw (
 A7 @AG2 (
 A7 @A5F (
 A7 @A5L (
 A7 @A5R (
 A7 @A1j (
 A7 @A5c (
 A7 @A5i (
 A7 @A5o (
 A7 @A5u (
 A7 @A60 (
 A7 @A66 (
 A7 @A6C (
 A7 @A6I (
 A7 @A6O (
 A7 @A6U (
 A7 @A6a (
 A7 @kn3 (
 A7 @st3 (
 A7 @sz3 (
 A7 @zr3 (
 A7 @kn4 (
 A7 @st4 (
 A7 @sz4 (
 A7 @zr4 (
 A7 @kn5 (
 A7 @st5 (
 A7 @sz5 (
 A7 @zr5 (
 A7 @AEa (
 A7 @AEb (
 A7 @AEe (
 A7 @AEc (
 A7 @AEf (
 A7 @AEg (
 A7 @AEj (
 A7 @AEh (
 A7 @AEk (
 A7 @AEl (
 A7 @AEo (
 A7 @AEm (
 A7 @AEp (
 A7 @AEq (
 A7 @AEt (
 A7 @AEr (
 A7 @AEu (
 A7 @AEv (
 A7 @AEy (
 A7 @AEw (
 A7 @AF0 (
 A7 @AF1 (
 A7 @AF4 (
 A7 @AF2 (
 A7 @AF6 (
 A7 @AF7 (
 A7 @AFA (
 A7 @AF8 (
 A7 @AFC (
 A7 @AFD (
 A7 @AFG (
 A7 @AFE (
 A7 @AFI (
 A7 @AFJ (
 A7 @AFM (
 A7 @AFK (
 A7 @AFN (
 A7 @AFO (
 A7 @AFR (
 A7 @AFP (
 A7 @AFT (
 A7 @AFU (
 A7 @AFX (
 A7 @AFV (
 A7 @AFZ (
 A7 @AFa (
 A7 @AFd (
 A7 @AFb (
 A7 @AFf (
 A7 @AFg (
 A7 @AFj (
 A7 @AFh (
 A7 @AFl (
 A7 @AFm (
 A7 @AFp (
 A7 @AFn (
 A7 @AFr (
 A7 @AFs (
 A7 @AFv (
 A7 @AFt (
 A7 @AFx (
 A7 @AFy (
 A7 @AG1 (
 A7 @AFz (
 A7 @AG3 (
 A7 @AG4 (
 A7 @AG7 (
 A7 @AG5 (
 A7 @A5G (
 A7 @A5H (
 A7 @A5K (
 A7 @A5I (
 A7 @A5M (
 A7 @A5N (
 A7 @A5Q (
 A7 @A5O (
 A7 @A5S (
 A7 @A5T (
 A7 @A5W (
 A7 @A5U (
 A7 @A5X (
 A7 @A5Y (
 A7 @A5b (
 A7 @A5Z (
 A7 @A5d (
 A7 @A5e (
 A7 @A5h (
 A7 @A5f (
 A7 @A5j (
 A7 @A5k (
 A7 @A5n (
 A7 @A5l (
 A7 @A5p (
 A7 @A5q (
 A7 @A5t (
 A7 @A5r (
 A7 @A5v (
 A7 @A5w (
 A7 @A5z (
 A7 @A5x (
 A7 @A61 (
 A7 @A62 (
 A7 @A65 (
 A7 @A63 (
 A7 @A67 (
 A7 @A68 (
 A7 @A6B (
 A7 @A69 (
 A7 @A6D (
 A7 @A6E (
 A7 @A6H (
 A7 @A6F (
 A7 @A6J (
 A7 @A6K (
 A7 @A6N (
 A7 @A6L (
 A7 @A6P (
 A7 @A6Q (
 A7 @A6T (
 A7 @A6R (
 A7 @A6V (
 A7 @A6W (
 A7 @A6Z (
 A7 @A6X (
 A7 @A6b (
 A7 @A6c (
 A7 @A6f (
 A7 @A6d (
 A7 @AEi (
 A7 @AEx (
 A7 @AF3 (
 A7 @AFF (
 A7 @AFL (
 A7 @AFi (
 A7 @AG0 (
 A7 @A5J (
 A7 @A5a (
 A7 @A1e (
 A7 @A1f (
 A7 @A1g (
 A7 @A1h (
 A7 @A1i (
 A7 @zo3 (
 A7 @zo4 (
 A7 @zo5 (
 A7 @AEd (
 A7 @AEn (
 A7 @AEs (
 A7 @AF9 (
 A7 @AFQ (
 A7 @AFW (
 A7 @AFc (
 A7 @AFo (
 A7 @AFu (
 A7 @AG6 (
 A7 @A5P (
 A7 @A5V (
 A7 @A5g (
 A7 @A5m (
 A7 @A5s (
 A7 @A5y (
 A7 @A64 (
 A7 @A6A (
 A7 @A6G (
 A7 @A6M (
 A7 @A6S (
 A7 @A6Y (
 A7 @A6e (
 A7 @le3 (
 A7 @le4 (
 A7 @le5 (
 A7 @le6 (
 A7 @le7 (
 A7 @le8 (
 A7 @le9 (
 A7 @AG8 (
 A7 @AG9 (
 A7 @AGA (
 A7 @AGB (
 A7 @AGC (
 A7 @AGD (
 A7 @AGE (
 A7 @AGF (
 A7 @AGG (
 A7 @AGH (
 A7 @AGI (
 A7 @AGJ (
 A7 @AGK (
 A7 @AGL (
 A7 @AGM (
 A7 @AGN (
 A7 @AGO (
 A7 @AGP (
 A7 @AGQ (
 A7 @AGR (
 A7 @AGS (
 A7 @AGT (
 A7 @AGU (
 A7 @AGV (
 A7 @AGW (
 A7 @AGX (
 A7 @AGY (
 A7 @AGZ (
 A7 @AGa (
 A7 @AGb (
 A7 @AGc (
 A7 @AGd (
 A7 @AGe (
 A7 @AGf (
 A7 @AGg (
 A7 @AGh (
 A7 @AGi (
 A7 @AGj (
 A7 @AGk (
 A7 @AGl (
 A7 @AGm (
 A7 @AGn (
 A7 @AGo (
 A7 @AGp (
 A7 @AGq (
 A7 @AGr (
 A7 @AGs (
 A7 @AGt (
 A7 @AGu (
 A7 @AGv (
 A7 @AGw (
 A7 @AGx (
 A7 @AGy (
 A7 @AGz (
 A7 @AH0 (
 A7 @AH1 (
 A7 @AH2 (
 A7 @AH3 (
 A7 @AH4 (
 A7 @AH5 (
 A7 @AH6 (
 A7 @AH7 (
 A7 @AH8 (
 A7 @AH9 (
 A7 @AHA (
 A7 @AHB (
 A7 @AHC (
 A7 @AHD (
 A7 @AHE (
 A7 @AHF (
 A7 @A9c (
 A7 @AHG (
 A7 @AHH (
 A7 @AHI (
 A7 @AHJ (
 A7 @AHK (
 A7 @AHL (
 A7 @AHM (
 A7 @AHN (
 A7 @AHO (
 A7 @AHP (
 A7 @AHQ (
 A7 @AHR (
 A7 @AHS (
 A7 @AHT (
 A7 @AHU (
 A7 @AHV (
 A7 @AHW (
 A7 @A9d (
 A7 @AHX (
 A7 @A6g (
 A7 @A6h (
 A7 @A6i (
 A7 @A6j (
 A7 @A1k (
 A7 @A6k (
 A7 @A6l (
 A7 @A6m (
 A7 @A6n (
 A7 @A6o (
 A7 @A6p (
 A7 @A6q (
 A7 @A6r (
 A7 @A6s (
 A7 @A6t (
 A7 @A6u (
 A7 @A6v (
 A7 @A6w (
 A7 @A6x (
 A7 @A6y (
 A7 @A6z (
 A7 @A70 (
 A7 @A71 (
 A7 @A72 (
 A7 @A73 (
 A7 @A74 (
 A7 @A75 (
 A7 @A76 (
 A7 @A77 (
 A7 @A78 (
 A7 @A79 (
 A7 @A7A (
 A7 @A7B (
 A7 @A7C (
 A7 @A7D (
 A7 @A7E (
 A7 @A7F (
 A7 @A7G (
 A7 @A7H (
 A7 @A7I (
 A7 @A7J (
 A7 @A7K (
 A7 @A7L (
 A7 @A7M (
 A7 @A7N (
 A7 @A7O (
 A7 @A7P (
 A7 @A7Q (
 A7 @A7R (
 A7 @A7S (
 A7 @A7T (
 A7 @A7U (
 A7 @A7V (
 A7 @A7W (
 A7 @A7X (
 A7 @A7Y (
 A7 @A7Z (
 A7 @A7a (
 A7 @A7b (
 A7 @A7c (
 A7 @A7d (
 A7 @A7e (
 A7 @A7f (
 A7 @A7g (
 A7 @A7h (
 A7 @A7i (
 A7 @A7j (
 A7 @A7k (
 A7 @A7l (
 A7 @A7m (
 A7 @A7n (
 A7 @A7o (
 A7 @A7p (
 A7 @A7q (
 A7 @A7r (
 A7 @A7s (
 A7 @A7t (
 A7 @A7u (
 A7 @A7v (
 A7 @A7w (
 A7 @A7x (@A7y)))))))))))))))))))))))))))))))))))))))))))))))))))))))))))))))))))))))))))))))))))))))))))))))))))))))))))))))))))))))))))))))))))))))))))))))))))))))))))))))))))))))))))))))))))))))))))))))))))))))))))))))))))))))))))))))))))))))))))))))))))))))))))))))))))))))))))))))))))))))))))))))))))))))))))))))))))))))))))))))))))))))))))))))))))))))))))))))))))))))))))))))))))))))))))))))))))))))))))
def k99:SC:= .seq (.ops [oX 2 (.assign (.const (.slice none 0 0))) 26]) (.seq (.seq (.ops [oM 3 0 26,oB 4 .eql 26 (tK 3) (.const (.slice none 0 0)) 26 4]) (.cond (tK 4) (.seq (.ops [oX 2 (.assign (.const (.slice none 0 0))) 26]) .ret) .skip)) (.seq (.ops [oX 5 (.buildSlice 26 0 #[]) 26,oM 6 0 26,oX 7 (.call ⟨(.builtin .append), #[(tK 5),(tK 6)], #[26,26]⟩) 26,oA 2 7 26]) .ret))
theorem A1l:Tryz.f99.body.map (BX lends)=some k99:=by kernel_rfl
theorem AHa:Bj Tryz.f99 1=true:=by kernel_rfl
theorem zg(A:Option Addr)(c:Nat):Y0.call 99 [.konst (.slice A 0 c)] []=some (.own 3 [],[]):=by
 refine AZ (Y:=Y0) rfl Tryz.func99 AHa A1l ?_;show Br Y0.env k99 (fin Ap 0 [ResultVar.tmp 2] _) _
 unfold k99
 cases A<;>simp only [↓AL,BZ,AHY,implies_true,Cz,UJ,Option.isSome_some,↓reduceIte,Nat.reduceEqDiff,Nat.reduceLT,Nat.reduceLeDiff,Nat.reduceAdd,Nat.reduceMul,Nat.reduceMod,Nat.reduceSub,List.contains_cons,List.contains_nil,Nat.reduceBEq,List.getD_cons_zero,List.getD_cons_succ,List.getD_nil,Lb,Sd,List.size_toArray,List.toList_toArray,List.zip_cons_cons,List.zip_nil_left,VD,Ue,Wm,VF,List.map_nil,yI,List.replicate_zero,List.set_cons_zero,oO,List.set_set,YD,List.any_cons,List.any_nil,List.all_nil,UG,Wj,List.getElem?_nil,List.range_zero,beq_self_eq_true,Int.reduceLE,Int.reduceLT,Int.reduceEq,Int.reduceSub,Int.reduceAdd,Int.reduceToNat,Int.reduceNeg,Option.isNone_none,Option.isNone_some]
theorem A9f:Dv.Good Tryz.prog Ap 99 [.sl 3 []] [] (.own 3 []) []:=uk kn3 (fun A c=>Dv.Sys.call_good AMO (zg A c))
def A1m(f:FuncId)(a l:List D):Option (D×List D):=
 match f,a,l with
 |99,[.sl 3 []],[]=>some (.own 3 [],[])
 |_,_,_=>none
theorem A49: ∀f a l r outs,A1m f a l=some (r,outs)→Dv.Good Tryz.prog Ap f a l r outs:=by
 intro f a l r outs h;unfold A1m at h
 split at h
 ·simp only [Option.some.injEq,Prod.mk.injEq]at h;obtain⟨rfl,rfl⟩:=h;exact A9f
 ·cases h
theorem A1n: ∀zs:AB,zs.length<4611686018427387904→Dv.Good Tryz.prog Ap 100 [.vw [100000] 0 0] [.own 3 (KV zs)] (.tup []) [.own 3 (KV (LZ zs))]:=fun zs h=>
 ze ⟨Tryz.f100,Tryz.func100,rfl,by decide⟩ sz3 (fun blk off cap zs w h1 h2 h3=>Tryz.slices_Sort_int blk off cap zs w h1 h2 h3) (fun p cap w=>Tryz.slices_Sort_int_none p cap w) zs h
theorem vF: ∀zs:AB,zs.length<1099511627776→Dv.Good Tryz.prog Ap 137 [.clo 156 [.cptr [.sl 3 (KV zs)]]] [] (.own 3 (KV (LZ zs))) []:=fun zs h=>
 qo ⟨Tryz.f137,Tryz.func137,rfl,by decide⟩ sz3
  (fun p ad cap w h1 h2=>callsIn_wide.1 (Go.Proofs.sv.sorted_in 5 (Dh _) p _ [] (by decide) (by decide) w h1 h2 (.inl ⟨ad,cap,rfl,rfl⟩)))
  (fun p b off cap zs w h0 h1 h2 h3 h4=>callsIn_wide.1 (Go.Proofs.sv.sorted_in 5 (Dh _) p _ zs (by have:maxLen=9223372036854775807:=rfl;omega) (by omega) w h1 h2 (.inr ⟨b,off,cap,rfl,h3,h4⟩))) zs h
noncomputable def Y:Dv.Sys:={P:=Tryz.prog,T:=Ap,lends:=lends,base:=X6 (X6 A1m (TI 100 3)) (Pb 137 156 3)}
theorem yOk:Dv.Sys.Ok Y:=⟨A9e,mixed,Xy (Xy A49 (fw A1n)) (YO vF)⟩
theorem A1o:Ap.ty 900013= .other:=nr rfl
theorem yT:Y.T=Ap:=nr rfl
theorem yL:Y.lends=lends:=nr rfl
set_option maxRecDepth 10000 in
set_option linter.defProp false in
def AHb:=
 A7 @A1o (
 A7 @yT (
 A7 @yL (
 A7 @AMP (
 A7 @AMQ (
 A7 @AMR (
 A7 @ty3 (
 A7 @ty4 (
 A7 @ty5 (
 A7 @A9X (
 A7 @A9Y (
 A7 @A9Z (
 A7 @A48 (
 A7 @A9a (
 A7 @AEz (
 A7 @AF5 (
 A7 @AFB (
 A7 @AFH (
 A7 @A9b (
 A7 @AFS (
 A7 @AFY (
 A7 @AFe (
 A7 @AFk (
 A7 @AFq (
 A7 @AFw (
 A7 @AG2 (
 A7 @A5F (
 A7 @A5L (
 A7 @A5R (
 A7 @A1j (
 A7 @A5c (
 A7 @A5i (
 A7 @A5o (
 A7 @A5u (
 A7 @A60 (
 A7 @A66 (
 A7 @A6C (
 A7 @A6I (
 A7 @A6O (
 A7 @A6U (
 A7 @A6a (
 A7 @kn3 (
 A7 @st3 (
 A7 @sz3 (
 A7 @zr3 (
 A7 @kn4 (
 A7 @st4 (
 A7 @sz4 (
 A7 @zr4 (
 A7 @kn5 (
 A7 @st5 (
 A7 @sz5 (
 A7 @zr5 (
 A7 @AEa (
 A7 @AEb (
 A7 @AEe (
 A7 @AEc (
 A7 @AEf (
 A7 @AEg (
 A7 @AEj (
 A7 @AEh (
 A7 @AEk (
 A7 @AEl (
 A7 @AEo (
 A7 @AEm (
 A7 @AEp (
 A7 @AEq (
 A7 @AEt (
 A7 @AEr (
 A7 @AEu (
 A7 @AEv (
 A7 @AEy (
 A7 @AEw (
 A7 @AF0 (
 A7 @AF1 (
 A7 @AF4 (
 A7 @AF2 (
 A7 @AF6 (
 A7 @AF7 (
 A7 @AFA (
 A7 @AF8 (
 A7 @AFC (
 A7 @AFD (
 A7 @AFG (
 A7 @AFE (
 A7 @AFI (
 A7 @AFJ (
 A7 @AFM (
 A7 @AFK (
 A7 @AFN (
 A7 @AFO (
 A7 @AFR (
 A7 @AFP (
 A7 @AFT (
 A7 @AFU (
 A7 @AFX (
 A7 @AFV (
 A7 @AFZ (
 A7 @AFa (
 A7 @AFd (
 A7 @AFb (
 A7 @AFf (
 A7 @AFg (
 A7 @AFj (
 A7 @AFh (
 A7 @AFl (
 A7 @AFm (
 A7 @AFp (
 A7 @AFn (
 A7 @AFr (
 A7 @AFs (
 A7 @AFv (
 A7 @AFt (
 A7 @AFx (
 A7 @AFy (
 A7 @AG1 (
 A7 @AFz (
 A7 @AG3 (
 A7 @AG4 (
 A7 @AG7 (
 A7 @AG5 (
 A7 @A5G (
 A7 @A5H (
 A7 @A5K (
 A7 @A5I (
 A7 @A5M (
 A7 @A5N (
 A7 @A5Q (
 A7 @A5O (
 A7 @A5S (
 A7 @A5T (
 A7 @A5W (
 A7 @A5U (
 A7 @A5X (
 A7 @A5Y (
 A7 @A5b (
 A7 @A5Z (
 A7 @A5d (
 A7 @A5e (
 A7 @A5h (
 A7 @A5f (
 A7 @A5j (
 A7 @A5k (
 A7 @A5n (
 A7 @A5l (
 A7 @A5p (
 A7 @A5q (
 A7 @A5t (
 A7 @A5r (
 A7 @A5v (
 A7 @A5w (
 A7 @A5z (
 A7 @A5x (
 A7 @A61 (
 A7 @A62 (
 A7 @A65 (
 A7 @A63 (
 A7 @A67 (
 A7 @A68 (
 A7 @A6B (
 A7 @A69 (
 A7 @A6D (
 A7 @A6E (
 A7 @A6H (
 A7 @A6F (
 A7 @A6J (
 A7 @A6K (
 A7 @A6N (
 A7 @A6L (
 A7 @A6P (
 A7 @A6Q (
 A7 @A6T (
 A7 @A6R (
 A7 @A6V (
 A7 @A6W (
 A7 @A6Z (
 A7 @A6X (
 A7 @A6b (
 A7 @A6c (
 A7 @A6f (
 A7 @A6d (
 A7 @AEi (
 A7 @AEx (
 A7 @AF3 (
 A7 @AFF (
 A7 @AFL (
 A7 @AFi (
 A7 @AG0 (
 A7 @A5J (
 A7 @A5a (
 A7 @A1e (
 A7 @A1f (
 A7 @A1g (
 A7 @A1h (
 A7 @A1i (
 A7 @zo3 (
 A7 @zo4 (
 A7 @zo5 (
 A7 @AEd (
 A7 @AEn (
 A7 @AEs (
 A7 @AF9 (
 A7 @AFQ (
 A7 @AFW (
 A7 @AFc (
 A7 @AFo (
 A7 @AFu (
 A7 @AG6 (
 A7 @A5P (
 A7 @A5V (
 A7 @A5g (
 A7 @A5m (
 A7 @A5s (
 A7 @A5y (
 A7 @A64 (
 A7 @A6A (
 A7 @A6G (
 A7 @A6M (
 A7 @A6S (
 A7 @A6Y (
 A7 @A6e (
 A7 @le3 (
 A7 @le4 (
 A7 @le5 (
 A7 @le6 (
 A7 @le7 (
 A7 @le8 (
 A7 @le9 (
 A7 @AG8 (
 A7 @AG9 (
 A7 @AGA (
 A7 @AGB (
 A7 @AGC (
 A7 @AGD (
 A7 @AGE (
 A7 @AGF (
 A7 @AGG (
 A7 @AGH (
 A7 @AGI (
 A7 @AGJ (
 A7 @AGK (
 A7 @AGL (
 A7 @AGM (
 A7 @AGN (
 A7 @AGO (
 A7 @AGP (
 A7 @AGQ (
 A7 @AGR (
 A7 @AGS (
 A7 @AGT (
 A7 @AGU (
 A7 @AGV (
 A7 @AGW (
 A7 @AGX (
 A7 @AGY (
 A7 @AGZ (
 A7 @AGa (
 A7 @AGb (
 A7 @AGc (
 A7 @AGd (
 A7 @AGe (
 A7 @AGf (
 A7 @AGg (
 A7 @AGh (
 A7 @AGi (
 A7 @AGj (
 A7 @AGk (
 A7 @AGl (
 A7 @AGm (
 A7 @AGn (
 A7 @AGo (
 A7 @AGp (
 A7 @AGq (
 A7 @AGr (
 A7 @AGs (
 A7 @AGt (
 A7 @AGu (
 A7 @AGv (
 A7 @AGw (
 A7 @AGx (
 A7 @AGy (
 A7 @AGz (
 A7 @AH0 (
 A7 @AH1 (
 A7 @AH2 (
 A7 @AH3 (
 A7 @AH4 (
 A7 @AH5 (
 A7 @AH6 (
 A7 @AH7 (
 A7 @AH8 (
 A7 @AH9 (
 A7 @AHA (
 A7 @AHB (
 A7 @AHC (
 A7 @AHD (
 A7 @AHE (
 A7 @AHF (
 A7 @A9c (
 A7 @AHG (
 A7 @AHH (
 A7 @AHI (
 A7 @AHJ (
 A7 @AHK (
 A7 @AHL (
 A7 @AHM (
 A7 @AHN (
 A7 @AHO (
 A7 @AHP (
 A7 @AHQ (
 A7 @AHR (
 A7 @AHS (
 A7 @AHT (
 A7 @AHU (
 A7 @AHV (
 A7 @AHW (
 A7 @A9d (
 A7 @AHX (
 A7 @A6g (
 A7 @A6h (
 A7 @A6i (
 A7 @A6j (
 A7 @A1k (
 A7 @A6k (
 A7 @A6l (
 A7 @A6m (
 A7 @A6n (
 A7 @A6o (
 A7 @A6p (
 A7 @A6q (
 A7 @A6r (
 A7 @A6s (
 A7 @A6t (
 A7 @A6u (
 A7 @A6v (
 A7 @A6w (
 A7 @A6x (
 A7 @A6y (
 A7 @A6z (
 A7 @A70 (
 A7 @A71 (
 A7 @A72 (
 A7 @A73 (
 A7 @A74 (
 A7 @A75 (
 A7 @A76 (
 A7 @A77 (
 A7 @A78 (
 A7 @A79 (
 A7 @A7A (
 A7 @A7B (
 A7 @A7C (
 A7 @A7D (
 A7 @A7E (
 A7 @A7F (
 A7 @A7G (
 A7 @A7H (
 A7 @A7I (
 A7 @A7J (
 A7 @A7K (
 A7 @A7L (
 A7 @A7M (
 A7 @A7N (
 A7 @A7O (
 A7 @A7P (
 A7 @A7Q (
 A7 @A7R (
 A7 @A7S (
 A7 @A7T (
 A7 @A7U (
 A7 @A7V (
 A7 @A7W (
 A7 @A7X (
 A7 @A7Y (
 A7 @A7Z (
 A7 @A7a (
 A7 @A7b (
 A7 @A7c (
 A7 @A7d (
 A7 @A7e (
 A7 @A7f (
 A7 @A7g (
 A7 @A7h (
 A7 @A7i (
 A7 @A7j (
 A7 @A7k (
 A7 @A7l (
 A7 @A7m (
 A7 @A7n (
 A7 @A7o (
 A7 @A7p (
 A7 @A7q (
 A7 @A7r (
 A7 @A7s (
 A7 @A7t (
 A7 @A7u (
 A7 @A7v (
 A7 @A7w (
 A7 @A7x (@A7y)))))))))))))))))))))))))))))))))))))))))))))))))))))))))))))))))))))))))))))))))))))))))))))))))))))))))))))))))))))))))))))))))))))))))))))))))))))))))))))))))))))))))))))))))))))))))))))))))))))))))))))))))))))))))))))))))))))))))))))))))))))))))))))))))))))))))))))))))))))))))))))))))))))))))))))))))))))))))))))))))))))))))))))))))))))))))))))))))))))))))))))))))))))))))))))))))))))))))))))))
theorem vG(zs:AB)(h:zs.length<1099511627776):Y.call 137 [.clo 156 [.cptr [.sl 3 (AQ (D.int .i64) zs)]]] []=some (.own 3 (AQ (D.int .i64) (LZ zs)),[]):=Dv.Sys.call_base ((gB 137 156 3 zs h))
theorem A1p(zs:AB)(h:zs.length<4611686018427387904):Y.call 100 [.vw [100000] 0 0] [.own 3 (AQ (D.int .i64) zs)]=some (.tup [],[.own 3 (AQ (D.int .i64) (LZ zs))]):=Dv.Sys.call_base (qp<|(ql 100 3 zs h))
theorem A1q(xs:List D)(h:xs.length<1099511627776)(hs:xs.all EE=true)(ho:BB xs=false)(hf:(F3 (.own 3 xs)).isSome=true):Y.call 99 [.sl 3 xs] []=some (.own 3 xs,[]):=by
 cases xs with
 |nil=>exact Dv.Sys.call_base rfl
 |cons x xs=>
  refine AZ (Y:=Y) rfl Tryz.func99 AHa A1l ?_;show Br Y.env k99 (fin Ap 0 [ResultVar.tmp 2] _) _
  unfold k99;have h0:0+(x::xs).length<1099511627776:=by omega
  simp only [Lb,MK]at h0;simp only [YD,xC]at hs ho;simp only [↓AL,BZ,AHb,implies_true,Cz,UJ,Option.isSome_some,↓reduceIte,Nat.reduceEqDiff,Nat.reduceLT,Nat.reduceLeDiff,Nat.reduceAdd,Nat.reduceMul,Nat.reduceMod,Nat.reduceSub,List.contains_cons,List.contains_nil,Nat.reduceBEq,List.getD_cons_zero,List.getD_cons_succ,List.getD_nil,Lb,Sd,List.size_toArray,List.toList_toArray,List.zip_cons_cons,List.zip_nil_left,VD,Ue,Wm,VF,List.map_nil,yI,List.replicate_zero,List.set_cons_zero,oO,List.set_set,YD,List.any_cons,List.any_nil,List.all_nil,UG,Wj,List.getElem?_nil,List.range_zero,beq_self_eq_true,Int.reduceLE,Int.reduceLT,Int.reduceEq,Int.reduceSub,Int.reduceAdd,Int.reduceToNat,Int.reduceNeg,MK,h0,hs,ho];simp only [A5C,xD]at hf;rw [if_pos hf]
set_option linter.defProp false in
def AO:=A7 BZ (A7 AEW (A7 xc2 (A7 Ei AHb)))
abbrev Bw:AB→D:=fun x=>D.sl 3 (AQ (D.int .i64) x)
abbrev Qw:AB→D:=fun x=>D.own 3 (AQ (D.int .i64) x)
abbrev CY:Op:= .assign (.const (.bool false))
abbrev KL:Op:= .assign (.const (.slice none 0 0))
abbrev F7:Operand:= .const (.bool true)
abbrev SL:Op:= .assign (.const (.int .i64 (-1)))
abbrev MS:Operand:= .const (.bool false)
abbrev vH:Operand:= .const (.int .i64 (-1))
abbrev vI:Op:= .fieldAddr 38 (tK 1) 0
end Go.Proofs.YtiehjihckndgkaaGreat
