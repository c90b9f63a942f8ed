/- The types of this seat as data, and the system of its calls. Conditions: none. -/
import Derived.Test.YtiehjihckndgkaaGreatRows
import Derived.Test.YtiehjihckndgkaaGreatL6
import Derived.Test.YtiehjihckndgkaaGreatSv
import Derived.KernelRfl
namespace Go.Proofs.YtiehjihckndgkaaGreat
open Go Dv
set_option linter.unusedSimpArgs false
set_option maxRecDepth 100000
def xZ:List Ty:=[.other,.func,.int .i64,.int .i64,.bool,.int .u8,.int .u8,.struct [2,3,4,6],.struct [2,3,4,6],.string,.string,.string,.int .u64,.struct [9,12],.struct [9,12],.ptr,.ptr,.ptr,.struct [17],.struct [17],.other,.int .i32,.slice 26,.struct [3,3,22,22],.struct [3,3,22,22],.slice 78,.slice 3,.struct [25,26,26],.struct [25,26,26],.func,.func,.func,.other,.func,.struct [3,3,22,22],.func,.slice 79,.struct [36,26,26],.struct [36,26,26],.func,.func,.func,.func,.func,.func,.func,.func,.func,.func,.other,.func,.func,.func,.func,.other,.func,.func,.func,.func,.func,.func,.func,.func,.func,.func,.func,.func,.func,.func,.func,.func,.func,.func,.func,.struct [3,3,22,22,36,26,26],.struct [3,3,22,22,36,26,26],.func,.func,.slice 111,.slice 87,.func,.func,.int .u64,.func,.func,.func,.struct [3,3],.struct [3,3],.func,.func,.func,.ptr,.struct [3,3,22,22,36,26,26,22],.struct [3,3,22,22,36,26,26,22],.func,.func,.func,.slice 101,.func,.func,.struct [3,3,3,3],.struct [3,3,3,3],.func,.func,.func,.func,.func,.func,.func,.func,.func,.struct [3,3],.func,.func,.func,.func,.func,.func,.func,.other,.func,.func,.func,.func,.func,.func,.func,.func,.func,.func,.func,.func,.int .u32,.other,.func,.int .u64,.other,.func,.func,.func,.func,.func,.func,.func,.func,.func,.int .i64,.other,.func,.func,.func,.func,.func,.slice 155,.func,.slice 4,.func,.int .u64,.func,.func,.func,.ptr,.func,.func,.ptr,.other,.func,.func,.struct [17,17,17,9],.struct [17,17,17,9],.other,.other,.other,.func,.int .u8,.int .u8,.func,.ptr,.int .i32,.int .i32,.struct [12,12,132,174,5,5,175,176,177,178,179],.struct [12,12,132,174,5,5,175,176,177,178,179]]
def nst:List (TypeId×List (Nat×TypeId)):=[(74,[(0,34),(4,38)]),(75,[(0,34),(4,38)]),(92,[(0,34),(4,38),(7,22)]),(93,[(0,34),(4,38),(7,22)])]
def Ae:Tys:=qX xZ nst
def lends(f:FuncId):Bool:=[18,19,20,27,44,73,76,100].contains f
theorem ty1:Ae.ty 1= .func:=nr rfl
theorem ty2:Ae.ty 2= .int .i64:=nr rfl
theorem ty3:Ae.ty 3= .int .i64:=nr rfl
theorem kn3:Ae.known 3=true:=nr rfl
theorem st3:Ae.isStruct 3=false:=nr rfl
theorem zr3:Ae.zeros 3=[.int .i64 0]:=nr rfl
theorem zo3:Ae.zero1 3= .int .i64 0:=nr rfl
theorem sz3:Ae.size 3=1:=nr rfl
theorem ty4:Ae.ty 4= .bool:=nr rfl
theorem kn4:Ae.known 4=true:=nr rfl
theorem st4:Ae.isStruct 4=false:=nr rfl
theorem zr4:Ae.zeros 4=[.bool false]:=nr rfl
theorem zo4:Ae.zero1 4= .bool false:=nr rfl
theorem sz4:Ae.size 4=1:=nr rfl
theorem ty5:Ae.ty 5= .int .u8:=nr rfl
theorem kn5:Ae.known 5=true:=nr rfl
theorem st5:Ae.isStruct 5=false:=nr rfl
theorem zr5:Ae.zeros 5=[.int .u8 0]:=nr rfl
theorem zo5:Ae.zero1 5= .int .u8 0:=nr rfl
theorem sz5:Ae.size 5=1:=nr rfl
theorem ty6:Ae.ty 6= .int .u8:=nr rfl
theorem ty7:Ae.ty 7= .struct [2,3,4,6]:=nr rfl
theorem ty8:Ae.ty 8= .struct [2,3,4,6]:=nr rfl
theorem ty9:Ae.ty 9= .string:=nr rfl
theorem AMC:Ae.ty 10= .string:=nr rfl
theorem AMD:Ae.ty 11= .string:=nr rfl
theorem AME:Ae.ty 12= .int .u64:=nr rfl
theorem AMF:Ae.ty 13= .struct [9,12]:=nr rfl
theorem AMG:Ae.ty 14= .struct [9,12]:=nr rfl
theorem AMH:Ae.ty 15= .ptr:=nr rfl
theorem AMI:Ae.ty 16= .ptr:=nr rfl
theorem AMJ:Ae.ty 17= .ptr:=nr rfl
theorem AMK:Ae.ty 18= .struct [17]:=nr rfl
theorem AML:Ae.ty 19= .struct [17]:=nr rfl
theorem AMM:Ae.ty 21= .int .i32:=nr rfl
theorem yu:Ae.ty 22= .slice 26:=nr rfl
theorem A95:Ae.known 22=true:=nr rfl
theorem A96:Ae.isStruct 22=false:=nr rfl
theorem A97:Ae.zeros 22=[.own 26 []]:=nr rfl
theorem A98:Ae.zero1 22= .own 26 []:=nr rfl
theorem A99:Ae.size 22=1:=nr rfl
theorem AMN:Ae.ty 23= .struct [3,3,22,22]:=nr rfl
theorem A4J:Ae.ty 24= .struct [3,3,22,22]:=nr rfl
theorem A9A:Ae.known 24=true:=nr rfl
theorem A9B:Ae.isStruct 24=true:=nr rfl
theorem A9C:Ae.zeros 24=[.int .i64 0,.int .i64 0,.own 26 [],.own 26 []]:=nr rfl
theorem A9D:Ae.nest 24=none:=nr rfl
theorem A9E:Ae.size 24=4:=nr rfl
theorem A4K:Ae.ty 25= .slice 78:=nr rfl
theorem A9F:Ae.known 25=true:=nr rfl
theorem A9G:Ae.isStruct 25=false:=nr rfl
theorem A9H:Ae.zeros 25=[.own 78 []]:=nr rfl
theorem A9I:Ae.zero1 25= .own 78 []:=nr rfl
theorem A9J:Ae.size 25=1:=nr rfl
theorem uw:Ae.ty 26= .slice 3:=nr rfl
theorem A9K:Ae.known 26=true:=nr rfl
theorem A9L:Ae.isStruct 26=false:=nr rfl
theorem A9M:Ae.zeros 26=[.own 3 []]:=nr rfl
theorem A9N:Ae.zero1 26= .own 3 []:=nr rfl
theorem A9O:Ae.size 26=1:=nr rfl
theorem AMO:Ae.ty 27= .struct [25,26,26]:=nr rfl
theorem A4L:Ae.ty 28= .struct [25,26,26]:=nr rfl
theorem A9P:Ae.known 28=true:=nr rfl
theorem A9Q:Ae.isStruct 28=true:=nr rfl
theorem A9R:Ae.zeros 28=[.own 78 [],.own 3 [],.own 3 []]:=nr rfl
theorem A9S:Ae.nest 28=none:=nr rfl
theorem A9T:Ae.size 28=3:=nr rfl
theorem AMP:Ae.ty 29= .func:=nr rfl
theorem AMQ:Ae.ty 30= .func:=nr rfl
theorem AMR:Ae.ty 31= .func:=nr rfl
theorem AMS:Ae.ty 33= .func:=nr rfl
theorem A9U:Ae.ty 34= .struct [3,3,22,22]:=nr rfl
theorem A9V:Ae.known 34=true:=nr rfl
theorem A9W:Ae.isStruct 34=true:=nr rfl
theorem A9X:Ae.zeros 34=[.int .i64 0,.int .i64 0,.own 26 [],.own 26 []]:=nr rfl
theorem A9Y:Ae.nest 34=none:=nr rfl
theorem A9Z:Ae.size 34=4:=nr rfl
theorem AMT:Ae.ty 35= .func:=nr rfl
theorem A9a:Ae.ty 36= .slice 79:=nr rfl
theorem A9b:Ae.known 36=true:=nr rfl
theorem A9c:Ae.isStruct 36=false:=nr rfl
theorem A9d:Ae.zeros 36=[.own 79 []]:=nr rfl
theorem A9e:Ae.zero1 36= .own 79 []:=nr rfl
theorem A9f:Ae.size 36=1:=nr rfl
theorem AMU:Ae.ty 37= .struct [36,26,26]:=nr rfl
theorem A9g:Ae.ty 38= .struct [36,26,26]:=nr rfl
theorem A9h:Ae.known 38=true:=nr rfl
theorem A9i:Ae.isStruct 38=true:=nr rfl
theorem A9j:Ae.zeros 38=[.own 79 [],.own 3 [],.own 3 []]:=nr rfl
theorem A9k:Ae.nest 38=none:=nr rfl
theorem A9l:Ae.size 38=3:=nr rfl
theorem AMV:Ae.ty 39= .func:=nr rfl
theorem AMW:Ae.ty 40= .func:=nr rfl
theorem AMX:Ae.ty 41= .func:=nr rfl
theorem AMY:Ae.ty 42= .func:=nr rfl
theorem AMZ:Ae.ty 43= .func:=nr rfl
theorem AMa:Ae.ty 44= .func:=nr rfl
theorem AMb:Ae.ty 45= .func:=nr rfl
theorem AMc:Ae.ty 46= .func:=nr rfl
theorem AMd:Ae.ty 47= .func:=nr rfl
theorem AMe:Ae.ty 48= .func:=nr rfl
theorem AMf:Ae.ty 50= .func:=nr rfl
theorem AMg:Ae.ty 51= .func:=nr rfl
theorem AMh:Ae.ty 52= .func:=nr rfl
theorem AMi:Ae.ty 53= .func:=nr rfl
theorem AMj:Ae.ty 55= .func:=nr rfl
theorem AMk:Ae.ty 56= .func:=nr rfl
theorem AMl:Ae.ty 57= .func:=nr rfl
theorem AMm:Ae.ty 58= .func:=nr rfl
theorem AMn:Ae.ty 59= .func:=nr rfl
theorem AMo:Ae.ty 60= .func:=nr rfl
theorem AMp:Ae.ty 61= .func:=nr rfl
theorem AMq:Ae.ty 62= .func:=nr rfl
theorem AMr:Ae.ty 63= .func:=nr rfl
theorem AMs:Ae.ty 64= .func:=nr rfl
theorem AMt:Ae.ty 65= .func:=nr rfl
theorem AMu:Ae.ty 66= .func:=nr rfl
theorem AMv:Ae.ty 67= .func:=nr rfl
theorem AMw:Ae.ty 68= .func:=nr rfl
theorem AMx:Ae.ty 69= .func:=nr rfl
theorem AMy:Ae.ty 70= .func:=nr rfl
theorem AMz:Ae.ty 71= .func:=nr rfl
theorem AN0:Ae.ty 72= .func:=nr rfl
theorem AN1:Ae.ty 73= .func:=nr rfl
theorem AN2:Ae.ty 74= .struct [3,3,22,22,36,26,26]:=nr rfl
theorem A9m:Ae.ty 75= .struct [3,3,22,22,36,26,26]:=nr rfl
theorem A9n:Ae.known 75=true:=nr rfl
theorem A9o:Ae.isStruct 75=true:=nr rfl
theorem A9p:Ae.zeros 75=[.int .i64 0,.int .i64 0,.own 26 [],.own 26 [],.own 79 [],.own 3 [],.own 3 []]:=nr rfl
theorem A9q:Ae.nest 75=some [(0,34),(4,38)]:=nr rfl
theorem uy:Ae.foff 75 0=some 0:=nr rfl
theorem uz:Ae.foff 75 1=some 4:=nr rfl
theorem A9r:Ae.size 75=7:=nr rfl
theorem AN3:Ae.ty 76= .func:=nr rfl
theorem AN4:Ae.ty 77= .func:=nr rfl
theorem A4M:Ae.ty 78= .slice 111:=nr rfl
theorem A9s:Ae.known 78=true:=nr rfl
theorem A9t:Ae.isStruct 78=false:=nr rfl
theorem A9u:Ae.zeros 78=[.own 111 []]:=nr rfl
theorem A9v:Ae.zero1 78= .own 111 []:=nr rfl
theorem A9w:Ae.size 78=1:=nr rfl
theorem A9x:Ae.ty 79= .slice 87:=nr rfl
theorem A9y:Ae.known 79=true:=nr rfl
theorem A9z:Ae.isStruct 79=false:=nr rfl
theorem AA0:Ae.zeros 79=[.own 87 []]:=nr rfl
theorem AA1:Ae.zero1 79= .own 87 []:=nr rfl
theorem AA2:Ae.size 79=1:=nr rfl
theorem AN5:Ae.ty 80= .func:=nr rfl
theorem AN6:Ae.ty 81= .func:=nr rfl
theorem AA3:Ae.ty 82= .int .u64:=nr rfl
theorem AA4:Ae.known 82=true:=nr rfl
theorem AA5:Ae.isStruct 82=false:=nr rfl
theorem AA6:Ae.zeros 82=[.int .u64 0]:=nr rfl
theorem AA7:Ae.zero1 82= .int .u64 0:=nr rfl
theorem AA8:Ae.size 82=1:=nr rfl
theorem AN7:Ae.ty 83= .func:=nr rfl
theorem AN8:Ae.ty 84= .func:=nr rfl
theorem AN9:Ae.ty 85= .func:=nr rfl
theorem ANA:Ae.ty 86= .struct [3,3]:=nr rfl
theorem AA9:Ae.ty 87= .struct [3,3]:=nr rfl
theorem AAA:Ae.known 87=true:=nr rfl
theorem AAB:Ae.isStruct 87=true:=nr rfl
theorem AAC:Ae.zeros 87=[.int .i64 0,.int .i64 0]:=nr rfl
theorem AAD:Ae.nest 87=none:=nr rfl
theorem AAE:Ae.size 87=2:=nr rfl
theorem ANB:Ae.ty 88= .func:=nr rfl
theorem ANC:Ae.ty 89= .func:=nr rfl
theorem AAF:Ae.ty 90= .func:=nr rfl
theorem AAG:Ae.known 90=true:=nr rfl
theorem AAH:Ae.isStruct 90=false:=nr rfl
theorem AAI:Ae.zeros 90=[.konst .nilFunc]:=nr rfl
theorem AAJ:Ae.zero1 90= .konst .nilFunc:=nr rfl
theorem AAK:Ae.size 90=1:=nr rfl
theorem AAL:Ae.ty 91= .ptr:=nr rfl
theorem AAM:Ae.known 91=true:=nr rfl
theorem AAN:Ae.isStruct 91=false:=nr rfl
theorem AAO:Ae.zeros 91=[.konst (.pointer none)]:=nr rfl
theorem AAP:Ae.zero1 91= .konst (.pointer none):=nr rfl
theorem AAQ:Ae.size 91=1:=nr rfl
theorem ANE:Ae.ty 92= .struct [3,3,22,22,36,26,26,22]:=nr rfl
theorem AAR:Ae.ty 93= .struct [3,3,22,22,36,26,26,22]:=nr rfl
theorem AAS:Ae.known 93=true:=nr rfl
theorem AAT:Ae.isStruct 93=true:=nr rfl
theorem AAU:Ae.zeros 93=[.int .i64 0,.int .i64 0,.own 26 [],.own 26 [],.own 79 [],.own 3 [],.own 3 [],.own 26 []]:=nr rfl
theorem AAV:Ae.nest 93=some [(0,34),(4,38),(7,22)]:=nr rfl
theorem vB:Ae.foff 93 0=some 0:=nr rfl
theorem vC:Ae.foff 93 1=some 4:=nr rfl
theorem vD:Ae.foff 93 2=some 7:=nr rfl
theorem AAW:Ae.size 93=8:=nr rfl
theorem ANF:Ae.ty 94= .func:=nr rfl
theorem ANG:Ae.ty 95= .func:=nr rfl
theorem ANH:Ae.ty 96= .func:=nr rfl
theorem AAX:Ae.ty 97= .slice 101:=nr rfl
theorem AAY:Ae.known 97=true:=nr rfl
theorem AAZ:Ae.isStruct 97=false:=nr rfl
theorem AAa:Ae.zeros 97=[.own 101 []]:=nr rfl
theorem AAb:Ae.zero1 97= .own 101 []:=nr rfl
theorem AAc:Ae.size 97=1:=nr rfl
theorem ANI:Ae.ty 98= .func:=nr rfl
theorem ANJ:Ae.ty 99= .func:=nr rfl
theorem AJZ:Ae.ty 100= .struct [3,3,3,3]:=nr rfl
theorem A07:Ae.ty 101= .struct [3,3,3,3]:=nr rfl
theorem A08:Ae.known 101=true:=nr rfl
theorem A09:Ae.isStruct 101=true:=nr rfl
theorem A0A:Ae.zeros 101=[.int .i64 0,.int .i64 0,.int .i64 0,.int .i64 0]:=nr rfl
theorem A0B:Ae.nest 101=none:=nr rfl
theorem A0C:Ae.size 101=4:=nr rfl
theorem A0D:Ae.ty 102= .func:=nr rfl
theorem A0E:Ae.known 102=true:=nr rfl
theorem A0F:Ae.isStruct 102=false:=nr rfl
theorem A0G:Ae.zeros 102=[.konst .nilFunc]:=nr rfl
theorem A0H:Ae.zero1 102= .konst .nilFunc:=nr rfl
theorem A0I:Ae.size 102=1:=nr rfl
theorem AJa:Ae.ty 103= .func:=nr rfl
theorem AJb:Ae.ty 104= .func:=nr rfl
theorem A0J:Ae.ty 105= .func:=nr rfl
theorem A0K:Ae.known 105=true:=nr rfl
theorem A0L:Ae.isStruct 105=false:=nr rfl
theorem A0M:Ae.zeros 105=[.konst .nilFunc]:=nr rfl
theorem A0N:Ae.zero1 105= .konst .nilFunc:=nr rfl
theorem A0O:Ae.size 105=1:=nr rfl
theorem AJc:Ae.ty 106= .func:=nr rfl
theorem AJd:Ae.ty 107= .func:=nr rfl
theorem AJe:Ae.ty 108= .func:=nr rfl
theorem AJf:Ae.ty 109= .func:=nr rfl
theorem AJg:Ae.ty 110= .func:=nr rfl
theorem vE:Ae.ty 111= .struct [3,3]:=nr rfl
theorem A0P:Ae.known 111=true:=nr rfl
theorem A0Q:Ae.isStruct 111=true:=nr rfl
theorem A0R:Ae.zeros 111=[.int .i64 0,.int .i64 0]:=nr rfl
theorem A0S:Ae.nest 111=none:=nr rfl
theorem A0T:Ae.size 111=2:=nr rfl
theorem A0U:Ae.ty 112= .func:=nr rfl
theorem A0V:Ae.known 112=true:=nr rfl
theorem A0W:Ae.isStruct 112=false:=nr rfl
theorem A0X:Ae.zeros 112=[.konst .nilFunc]:=nr rfl
theorem A0Y:Ae.zero1 112= .konst .nilFunc:=nr rfl
theorem A0Z:Ae.size 112=1:=nr rfl
theorem AJh:Ae.ty 113= .func:=nr rfl
theorem AJi:Ae.ty 114= .func:=nr rfl
theorem AJj:Ae.ty 115= .func:=nr rfl
theorem AJk:Ae.ty 116= .func:=nr rfl
theorem AJl:Ae.ty 117= .func:=nr rfl
theorem AJm:Ae.ty 118= .func:=nr rfl
theorem AJn:Ae.ty 120= .func:=nr rfl
theorem AJo:Ae.ty 121= .func:=nr rfl
theorem AJp:Ae.ty 122= .func:=nr rfl
theorem AJq:Ae.ty 123= .func:=nr rfl
theorem A0a:Ae.ty 124= .func:=nr rfl
theorem A0b:Ae.known 124=true:=nr rfl
theorem A0c:Ae.isStruct 124=false:=nr rfl
theorem A0d:Ae.zeros 124=[.konst .nilFunc]:=nr rfl
theorem A0e:Ae.zero1 124= .konst .nilFunc:=nr rfl
theorem A0f:Ae.size 124=1:=nr rfl
theorem AJr:Ae.ty 125= .func:=nr rfl
theorem AJs:Ae.ty 126= .func:=nr rfl
theorem AJt:Ae.ty 127= .func:=nr rfl
theorem AJu:Ae.ty 128= .func:=nr rfl
theorem AJv:Ae.ty 129= .func:=nr rfl
theorem AJw:Ae.ty 130= .func:=nr rfl
theorem AJx:Ae.ty 131= .func:=nr rfl
theorem A0g:Ae.ty 132= .int .u32:=nr rfl
theorem A0h:Ae.known 132=true:=nr rfl
theorem A0i:Ae.isStruct 132=false:=nr rfl
theorem A0j:Ae.zeros 132=[.int .u32 0]:=nr rfl
theorem A0k:Ae.zero1 132= .int .u32 0:=nr rfl
theorem A0l:Ae.size 132=1:=nr rfl
theorem AJy:Ae.ty 134= .func:=nr rfl
theorem A0m:Ae.ty 135= .int .u64:=nr rfl
theorem A0n:Ae.known 135=true:=nr rfl
theorem A0o:Ae.isStruct 135=false:=nr rfl
theorem A0p:Ae.zeros 135=[.int .u64 0]:=nr rfl
theorem A0q:Ae.zero1 135= .int .u64 0:=nr rfl
theorem A0r:Ae.size 135=1:=nr rfl
theorem AJz:Ae.ty 137= .func:=nr rfl
theorem AK0:Ae.ty 138= .func:=nr rfl
theorem AK1:Ae.ty 139= .func:=nr rfl
theorem AK2:Ae.ty 140= .func:=nr rfl
theorem A0s:Ae.ty 141= .func:=nr rfl
theorem A0t:Ae.known 141=true:=nr rfl
theorem A0u:Ae.isStruct 141=false:=nr rfl
theorem A0v:Ae.zeros 141=[.konst .nilFunc]:=nr rfl
theorem A0w:Ae.zero1 141= .konst .nilFunc:=nr rfl
theorem A0x:Ae.size 141=1:=nr rfl
theorem A0y:Ae.ty 142= .func:=nr rfl
theorem A0z:Ae.known 142=true:=nr rfl
theorem A10:Ae.isStruct 142=false:=nr rfl
theorem A11:Ae.zeros 142=[.konst .nilFunc]:=nr rfl
theorem A12:Ae.zero1 142= .konst .nilFunc:=nr rfl
theorem A13:Ae.size 142=1:=nr rfl
theorem AK3:Ae.ty 143= .func:=nr rfl
theorem AK4:Ae.ty 144= .func:=nr rfl
theorem AK5:Ae.ty 145= .func:=nr rfl
theorem A14:Ae.ty 146= .int .i64:=nr rfl
theorem A15:Ae.known 146=true:=nr rfl
theorem A16:Ae.isStruct 146=false:=nr rfl
theorem A17:Ae.zeros 146=[.int .i64 0]:=nr rfl
theorem A18:Ae.zero1 146= .int .i64 0:=nr rfl
theorem A19:Ae.size 146=1:=nr rfl
theorem AK6:Ae.ty 148= .func:=nr rfl
theorem AK7:Ae.ty 149= .func:=nr rfl
theorem AK8:Ae.ty 150= .func:=nr rfl
theorem AK9:Ae.ty 151= .func:=nr rfl
theorem AKA:Ae.ty 152= .func:=nr rfl
theorem A1A:Ae.ty 153= .slice 155:=nr rfl
theorem A1B:Ae.known 153=true:=nr rfl
theorem A1C:Ae.isStruct 153=false:=nr rfl
theorem A1D:Ae.zeros 153=[.own 155 []]:=nr rfl
theorem A1E:Ae.zero1 153= .own 155 []:=nr rfl
theorem A1F:Ae.size 153=1:=nr rfl
theorem AKB:Ae.ty 154= .func:=nr rfl
theorem A1G:Ae.ty 155= .slice 4:=nr rfl
theorem A1H:Ae.known 155=true:=nr rfl
theorem A1I:Ae.isStruct 155=false:=nr rfl
theorem A1J:Ae.zeros 155=[.own 4 []]:=nr rfl
theorem A1K:Ae.zero1 155= .own 4 []:=nr rfl
theorem A1L:Ae.size 155=1:=nr rfl
theorem AKC:Ae.ty 156= .func:=nr rfl
theorem A1M:Ae.ty 157= .int .u64:=nr rfl
theorem A1N:Ae.known 157=true:=nr rfl
theorem A1O:Ae.isStruct 157=false:=nr rfl
theorem A1P:Ae.zeros 157=[.int .u64 0]:=nr rfl
theorem A1Q:Ae.zero1 157= .int .u64 0:=nr rfl
theorem A1R:Ae.size 157=1:=nr rfl
theorem AKD:Ae.ty 158= .func:=nr rfl
theorem AKE:Ae.ty 159= .func:=nr rfl
theorem AKF:Ae.ty 160= .func:=nr rfl
theorem A1S:Ae.ty 161= .ptr:=nr rfl
theorem A1T:Ae.known 161=true:=nr rfl
theorem A1U:Ae.isStruct 161=false:=nr rfl
theorem A1V:Ae.zeros 161=[.konst (.pointer none)]:=nr rfl
theorem A1W:Ae.zero1 161= .konst (.pointer none):=nr rfl
theorem A1X:Ae.size 161=1:=nr rfl
theorem AKG:Ae.ty 162= .func:=nr rfl
theorem AKH:Ae.ty 163= .func:=nr rfl
theorem AKI:Ae.ty 164= .ptr:=nr rfl
theorem AKJ:Ae.ty 166= .func:=nr rfl
theorem AKK:Ae.ty 167= .func:=nr rfl
theorem AKL:Ae.ty 168= .struct [17,17,17,9]:=nr rfl
theorem AKM:Ae.ty 169= .struct [17,17,17,9]:=nr rfl
theorem AKN:Ae.ty 173= .func:=nr rfl
theorem AKO:Ae.ty 174= .int .u8:=nr rfl
theorem AKP:Ae.ty 175= .int .u8:=nr rfl
theorem AKQ:Ae.ty 176= .func:=nr rfl
theorem AKR:Ae.ty 177= .ptr:=nr rfl
theorem AKS:Ae.ty 178= .int .i32:=nr rfl
theorem AKT:Ae.ty 179= .int .i32:=nr rfl
theorem AKU:Ae.ty 180= .struct [12,12,132,174,5,5,175,176,177,178,179]:=nr rfl
theorem AKV:Ae.ty 181= .struct [12,12,132,174,5,5,175,176,177,178,179]:=nr rfl
theorem le3:lends 3=false:=nr rfl
theorem le4:lends 4=false:=nr rfl
theorem le5:lends 5=false:=nr rfl
theorem le6:lends 6=false:=nr rfl
theorem le7:lends 7=false:=nr rfl
theorem le8:lends 8=false:=nr rfl
theorem le9:lends 9=false:=nr rfl
theorem AAd:lends 10=false:=nr rfl
theorem AAe:lends 11=false:=nr rfl
theorem AAf:lends 12=false:=nr rfl
theorem AAg:lends 13=false:=nr rfl
theorem AAh:lends 14=false:=nr rfl
theorem AAi:lends 15=false:=nr rfl
theorem AAj:lends 16=false:=nr rfl
theorem AAk:lends 17=false:=nr rfl
theorem AAl:lends 18=true:=nr rfl
theorem AAm:lends 19=true:=nr rfl
theorem AAn:lends 20=true:=nr rfl
theorem AAo:lends 21=false:=nr rfl
theorem AAp:lends 22=false:=nr rfl
theorem AAq:lends 23=false:=nr rfl
theorem AAr:lends 24=false:=nr rfl
theorem AAs:lends 25=false:=nr rfl
theorem AAt:lends 26=false:=nr rfl
theorem AAu:lends 27=true:=nr rfl
theorem AAv:lends 28=false:=nr rfl
theorem AAw:lends 29=false:=nr rfl
theorem AAx:lends 30=false:=nr rfl
theorem AAy:lends 31=false:=nr rfl
theorem AAz:lends 32=false:=nr rfl
theorem AB0:lends 33=false:=nr rfl
theorem AB1:lends 34=false:=nr rfl
theorem AB2:lends 35=false:=nr rfl
theorem AB3:lends 36=false:=nr rfl
theorem AB4:lends 37=false:=nr rfl
theorem AB5:lends 38=false:=nr rfl
theorem AB6:lends 39=false:=nr rfl
theorem AB7:lends 40=false:=nr rfl
theorem AB8:lends 41=false:=nr rfl
theorem AB9:lends 42=false:=nr rfl
theorem ABA:lends 43=false:=nr rfl
theorem ABB:lends 44=true:=nr rfl
theorem ABC:lends 45=false:=nr rfl
theorem ABD:lends 46=false:=nr rfl
theorem ABE:lends 47=false:=nr rfl
theorem ABF:lends 48=false:=nr rfl
theorem ABG:lends 49=false:=nr rfl
theorem ABH:lends 50=false:=nr rfl
theorem ABJ:lends 51=false:=nr rfl
theorem ABK:lends 52=false:=nr rfl
theorem ABL:lends 53=false:=nr rfl
theorem ABM:lends 54=false:=nr rfl
theorem ABN:lends 55=false:=nr rfl
theorem ABO:lends 56=false:=nr rfl
theorem ABP:lends 57=false:=nr rfl
theorem ABQ:lends 58=false:=nr rfl
theorem ABR:lends 59=false:=nr rfl
theorem ABS:lends 60=false:=nr rfl
theorem ABT:lends 61=false:=nr rfl
theorem ABU:lends 62=false:=nr rfl
theorem ABV:lends 63=false:=nr rfl
theorem ABW:lends 64=false:=nr rfl
theorem ABX:lends 65=false:=nr rfl
theorem ABY:lends 66=false:=nr rfl
theorem ABZ:lends 67=false:=nr rfl
theorem ABa:lends 68=false:=nr rfl
theorem ABb:lends 69=false:=nr rfl
theorem A4N:lends 70=false:=nr rfl
theorem ABc:lends 71=false:=nr rfl
theorem ABd:lends 72=false:=nr rfl
theorem ABe:lends 73=true:=nr rfl
theorem ABf:lends 74=false:=nr rfl
theorem ABg:lends 75=false:=nr rfl
theorem ABh:lends 76=true:=nr rfl
theorem ABi:lends 77=false:=nr rfl
theorem ABj:lends 78=false:=nr rfl
theorem ABk:lends 79=false:=nr rfl
theorem ABl:lends 80=false:=nr rfl
theorem ABm:lends 81=false:=nr rfl
theorem ABn:lends 82=false:=nr rfl
theorem ABo:lends 83=false:=nr rfl
theorem ABp:lends 84=false:=nr rfl
theorem ABq:lends 85=false:=nr rfl
theorem ABr:lends 86=false:=nr rfl
theorem ABs:lends 87=false:=nr rfl
theorem ABt:lends 88=false:=nr rfl
theorem ABu:lends 89=false:=nr rfl
theorem ABv:lends 90=false:=nr rfl
theorem ABw:lends 91=false:=nr rfl
theorem ABx:lends 92=false:=nr rfl
theorem ABy:lends 93=false:=nr rfl
theorem ABz:lends 94=false:=nr rfl
theorem AC0:lends 95=false:=nr rfl
theorem AC1:lends 96=false:=nr rfl
theorem AC2:lends 97=false:=nr rfl
theorem A4O:lends 98=false:=nr rfl
theorem AC3:lends 99=false:=nr rfl
theorem A1Y:lends 100=true:=nr rfl
theorem A1Z:lends 101=false:=nr rfl
theorem A1a:lends 102=false:=nr rfl
theorem A1b:lends 103=false:=nr rfl
theorem vF:lends 104=false:=nr rfl
theorem A1c:lends 105=false:=nr rfl
theorem A1d:lends 106=false:=nr rfl
theorem A1e:lends 107=false:=nr rfl
theorem A1f:lends 108=false:=nr rfl
theorem A1g:lends 109=false:=nr rfl
theorem A1h:lends 110=false:=nr rfl
theorem A1i:lends 111=false:=nr rfl
theorem A1j:lends 112=false:=nr rfl
theorem A1k:lends 113=false:=nr rfl
theorem A1l:lends 114=false:=nr rfl
theorem A1m:lends 115=false:=nr rfl
theorem A1n:lends 116=false:=nr rfl
theorem A1o:lends 117=false:=nr rfl
theorem A1p:lends 118=false:=nr rfl
theorem A1q:lends 119=false:=nr rfl
theorem A1r:lends 120=false:=nr rfl
theorem A1s:lends 121=false:=nr rfl
theorem A1t:lends 122=false:=nr rfl
theorem A1u:lends 123=false:=nr rfl
theorem A1v:lends 124=false:=nr rfl
theorem A1w:lends 125=false:=nr rfl
theorem A1x:lends 126=false:=nr rfl
theorem A1y:lends 127=false:=nr rfl
theorem A1z:lends 128=false:=nr rfl
theorem A20:lends 129=false:=nr rfl
theorem A21:lends 130=false:=nr rfl
theorem A22:lends 131=false:=nr rfl
theorem A23:lends 132=false:=nr rfl
theorem A24:lends 133=false:=nr rfl
theorem A25:lends 134=false:=nr rfl
theorem A26:lends 135=false:=nr rfl
theorem A27:lends 136=false:=nr rfl
theorem A28:lends 137=false:=nr rfl
theorem A29:lends 138=false:=nr rfl
theorem A2A:lends 139=false:=nr rfl
theorem A2B:lends 140=false:=nr rfl
theorem A2C:lends 141=false:=nr rfl
theorem A2D:lends 142=false:=nr rfl
theorem A2E:lends 143=false:=nr rfl
theorem A2F:lends 144=false:=nr rfl
theorem A2G:lends 145=false:=nr rfl
theorem A2H:lends 146=false:=nr rfl
theorem A2I:lends 147=false:=nr rfl
theorem A2J:lends 148=false:=nr rfl
theorem A2K:lends 149=false:=nr rfl
theorem A2L:lends 150=false:=nr rfl
theorem A2M:lends 151=false:=nr rfl
theorem A2N:lends 152=false:=nr rfl
theorem A2O:lends 153=false:=nr rfl
theorem A2P:lends 154=false:=nr rfl
theorem A2Q:lends 155=false:=nr rfl
theorem A2R:lends 156=false:=nr rfl
theorem A2S:lends 157=false:=nr rfl
theorem A2T:lends 158=false:=nr rfl
theorem A2U:lends 159=false:=nr rfl
theorem A2V:lends 160=false:=nr rfl
theorem A2W:lends 161=false:=nr rfl
theorem A2X:lends 162=false:=nr rfl
theorem A2Y:lends 163=false:=nr rfl
theorem A2Z:lends 164=false:=nr rfl
theorem A2a:lends 165=false:=nr rfl
theorem A2b:lends 166=false:=nr rfl
theorem A2c:lends 167=false:=nr rfl
theorem A2d:lends 168=false:=nr rfl
theorem A2e:lends 169=false:=nr rfl
theorem A2f:lends 170=false:=nr rfl
theorem A2g:lends 171=false:=nr rfl
theorem A2h:lends 172=false:=nr rfl
theorem A2i:lends 173=false:=nr rfl
theorem A2j:lends 174=false:=nr rfl
theorem A2k:lends 175=false:=nr rfl
theorem A2l:lends 176=false:=nr rfl
theorem A2m:lends 177=false:=nr rfl
theorem A2n:lends 178=false:=nr rfl
theorem A2o:lends 179=false:=nr rfl
theorem A2p:lends 180=false:=nr rfl
theorem A2q:lends 181=false:=nr rfl
set_option maxRecDepth 100000 in
theorem A4P:Ca Tryz.prog Ae:=A3T (by kernel_rfl)
theorem mixed:Tryz.prog.follows .mixedOrders=true:=by kernel_rfl
noncomputable def Y0:Dv.Sys:={P:=Tryz.prog,T:=Ae,lends:=lends,base:=fun _ _ _=>none}
theorem AGL:Dv.Sys.Ok Y0:=⟨A4P,mixed,fun _ _ _ _ _ h=>by cases h⟩
theorem AGM(T:Tys)(s:St)(t:TypeId):ev T s t (.const .nilFunc)=some (.konst .nilFunc):=nr rfl
theorem AGN(T:Tys)(s:St)(t:TypeId):ev T s t (.const .nilIface)=some (.konst .nilIface):=nr rfl
theorem AGO(T:Tys)(s:St)(t:TypeId):ev T s t (.const (.pointer none))=some (.konst (.pointer none)):=nr rfl
theorem y0T:Y0.T=Ae:=nr rfl
theorem y0L:Y0.lends=lends:=nr rfl
set_option maxRecDepth 10000 in
set_option linter.defProp false in
def AC4:=
 A7 @y0T (
 A7 @y0L (
 A7 @ty3 (
 A7 @ty4 (
 A7 @ty5 (
 A7 @yu (
 A7 @A4J (
 A7 @A4K (
 A7 @uw (
 A7 @A4L (
 A7 @A9U (
 A7 @A9a (
 A7 @A9g (
 A7 @A9m (
 A7 @A4M (
 A7 @A9x (
 A7 @AA3 (
 A7 @AA9 (
 A7 @AAF (
 A7 @AAL (
 A7 @AAR (
 A7 @AAX (
 A7 @A07 (
 A7 @A0D (
 A7 @A0J (
 A7 @vE (
 A7 @A0U (
 A7 @A0a (
 A7 @A0g (
 A7 @A0m (
 A7 @A0s (
 A7 @A0y (
 A7 @A14 (
 A7 @A1A (
 A7 @A1G (
 A7 @A1M (
 A7 @A1S (
 A7 @kn3 (
 A7 @st3 (
 A7 @sz3 (
 A7 @zr3 (
 A7 @kn4 (
 A7 @st4 (
 A7 @sz4 (
 A7 @zr4 (
 A7 @kn5 (
 A7 @st5 (
 A7 @sz5 (
 A7 @zr5 (
 A7 @A95 (
 A7 @A96 (
 A7 @A99 (
 A7 @A97 (
 A7 @A9A (
 A7 @A9B (
 A7 @A9E (
 A7 @A9C (
 A7 @A9F (
 A7 @A9G (
 A7 @A9J (
 A7 @A9H (
 A7 @A9K (
 A7 @A9L (
 A7 @A9O (
 A7 @A9M (
 A7 @A9P (
 A7 @A9Q (
 A7 @A9T (
 A7 @A9R (
 A7 @A9V (
 A7 @A9W (
 A7 @A9Z (
 A7 @A9X (
 A7 @A9b (
 A7 @A9c (
 A7 @A9f (
 A7 @A9d (
 A7 @A9h (
 A7 @A9i (
 A7 @A9l (
 A7 @A9j (
 A7 @A9n (
 A7 @A9o (
 A7 @A9r (
 A7 @A9p (
 A7 @A9s (
 A7 @A9t (
 A7 @A9w (
 A7 @A9u (
 A7 @A9y (
 A7 @A9z (
 A7 @AA2 (
 A7 @AA0 (
 A7 @AA4 (
 A7 @AA5 (
 A7 @AA8 (
 A7 @AA6 (
 A7 @AAA (
 A7 @AAB (
 A7 @AAE (
 A7 @AAC (
 A7 @AAG (
 A7 @AAH (
 A7 @AAK (
 A7 @AAI (
 A7 @AAM (
 A7 @AAN (
 A7 @AAQ (
 A7 @AAO (
 A7 @AAS (
 A7 @AAT (
 A7 @AAW (
 A7 @AAU (
 A7 @AAY (
 A7 @AAZ (
 A7 @AAc (
 A7 @AAa (
 A7 @A08 (
 A7 @A09 (
 A7 @A0C (
 A7 @A0A (
 A7 @A0E (
 A7 @A0F (
 A7 @A0I (
 A7 @A0G (
 A7 @A0K (
 A7 @A0L (
 A7 @A0O (
 A7 @A0M (
 A7 @A0P (
 A7 @A0Q (
 A7 @A0T (
 A7 @A0R (
 A7 @A0V (
 A7 @A0W (
 A7 @A0Z (
 A7 @A0X (
 A7 @A0b (
 A7 @A0c (
 A7 @A0f (
 A7 @A0d (
 A7 @A0h (
 A7 @A0i (
 A7 @A0l (
 A7 @A0j (
 A7 @A0n (
 A7 @A0o (
 A7 @A0r (
 A7 @A0p (
 A7 @A0t (
 A7 @A0u (
 A7 @A0x (
 A7 @A0v (
 A7 @A0z (
 A7 @A10 (
 A7 @A13 (
 A7 @A11 (
 A7 @A15 (
 A7 @A16 (
 A7 @A19 (
 A7 @A17 (
 A7 @A1B (
 A7 @A1C (
 A7 @A1F (
 A7 @A1D (
 A7 @A1H (
 A7 @A1I (
 A7 @A1L (
 A7 @A1J (
 A7 @A1N (
 A7 @A1O (
 A7 @A1R (
 A7 @A1P (
 A7 @A1T (
 A7 @A1U (
 A7 @A1X (
 A7 @A1V (
 A7 @A9D (
 A7 @A9S (
 A7 @A9Y (
 A7 @A9k (
 A7 @A9q (
 A7 @AAD (
 A7 @AAV (
 A7 @A0B (
 A7 @A0S (
 A7 @uy (
 A7 @uz (
 A7 @vB (
 A7 @vC (
 A7 @vD (
 A7 @zo3 (
 A7 @zo4 (
 A7 @zo5 (
 A7 @A98 (
 A7 @A9I (
 A7 @A9N (
 A7 @A9e (
 A7 @A9v (
 A7 @AA1 (
 A7 @AA7 (
 A7 @AAJ (
 A7 @AAP (
 A7 @AAb (
 A7 @A0H (
 A7 @A0N (
 A7 @A0Y (
 A7 @A0e (
 A7 @A0k (
 A7 @A0q (
 A7 @A0w (
 A7 @A12 (
 A7 @A18 (
 A7 @A1E (
 A7 @A1K (
 A7 @A1Q (
 A7 @A1W (
 A7 @le3 (
 A7 @le4 (
 A7 @le5 (
 A7 @le6 (
 A7 @le7 (
 A7 @le8 (
 A7 @le9 (
 A7 @AAd (
 A7 @AAe (
 A7 @AAf (
 A7 @AAg (
 A7 @AAh (
 A7 @AAi (
 A7 @AAj (
 A7 @AAk (
 A7 @AAl (
 A7 @AAm (
 A7 @AAn (
 A7 @AAo (
 A7 @AAp (
 A7 @AAq (
 A7 @AAr (
 A7 @AAs (
 A7 @AAt (
 A7 @AAu (
 A7 @AAv (
 A7 @AAw (
 A7 @AAx (
 A7 @AAy (
 A7 @AAz (
 A7 @AB0 (
 A7 @AB1 (
 A7 @AB2 (
 A7 @AB3 (
 A7 @AB4 (
 A7 @AB5 (
 A7 @AB6 (
 A7 @AB7 (
 A7 @AB8 (
 A7 @AB9 (
 A7 @ABA (
 A7 @ABB (
 A7 @ABC (
 A7 @ABD (
 A7 @ABE (
 A7 @ABF (
 A7 @ABG (
 A7 @ABH (
 A7 @ABJ (
 A7 @ABK (
 A7 @ABL (
 A7 @ABM (
 A7 @ABN (
 A7 @ABO (
 A7 @ABP (
 A7 @ABQ (
 A7 @ABR (
 A7 @ABS (
 A7 @ABT (
 A7 @ABU (
 A7 @ABV (
 A7 @ABW (
 A7 @ABX (
 A7 @ABY (
 A7 @ABZ (
 A7 @ABa (
 A7 @ABb (
 A7 @A4N (
 A7 @ABc (
 A7 @ABd (
 A7 @ABe (
 A7 @ABf (
 A7 @ABg (
 A7 @ABh (
 A7 @ABi (
 A7 @ABj (
 A7 @ABk (
 A7 @ABl (
 A7 @ABm (
 A7 @ABn (
 A7 @ABo (
 A7 @ABp (
 A7 @ABq (
 A7 @ABr (
 A7 @ABs (
 A7 @ABt (
 A7 @ABu (
 A7 @ABv (
 A7 @ABw (
 A7 @ABx (
 A7 @ABy (
 A7 @ABz (
 A7 @AC0 (
 A7 @AC1 (
 A7 @AC2 (
 A7 @A4O (
 A7 @AC3 (
 A7 @A1Y (
 A7 @A1Z (
 A7 @A1a (
 A7 @A1b (
 A7 @vF (
 A7 @A1c (
 A7 @A1d (
 A7 @A1e (
 A7 @A1f (
 A7 @A1g (
 A7 @A1h (
 A7 @A1i (
 A7 @A1j (
 A7 @A1k (
 A7 @A1l (
 A7 @A1m (
 A7 @A1n (
 A7 @A1o (
 A7 @A1p (
 A7 @A1q (
 A7 @A1r (
 A7 @A1s (
 A7 @A1t (
 A7 @A1u (
 A7 @A1v (
 A7 @A1w (
 A7 @A1x (
 A7 @A1y (
 A7 @A1z (
 A7 @A20 (
 A7 @A21 (
 A7 @A22 (
 A7 @A23 (
 A7 @A24 (
 A7 @A25 (
 A7 @A26 (
 A7 @A27 (
 A7 @A28 (
 A7 @A29 (
 A7 @A2A (
 A7 @A2B (
 A7 @A2C (
 A7 @A2D (
 A7 @A2E (
 A7 @A2F (
 A7 @A2G (
 A7 @A2H (
 A7 @A2I (
 A7 @A2J (
 A7 @A2K (
 A7 @A2L (
 A7 @A2M (
 A7 @A2N (
 A7 @A2O (
 A7 @A2P (
 A7 @A2Q (
 A7 @A2R (
 A7 @A2S (
 A7 @A2T (
 A7 @A2U (
 A7 @A2V (
 A7 @A2W (
 A7 @A2X (
 A7 @A2Y (
 A7 @A2Z (
 A7 @A2a (
 A7 @A2b (
 A7 @A2c (
 A7 @A2d (
 A7 @A2e (
 A7 @A2f (
 A7 @A2g (
 A7 @A2h (
 A7 @A2i (
 A7 @A2j (
 A7 @A2k (
 A7 @A2l (
 A7 @A2m (
 A7 @A2n (
 A7 @A2o (
 A7 @A2p (@A2q)))))))))))))))))))))))))))))))))))))))))))))))))))))))))))))))))))))))))))))))))))))))))))))))))))))))))))))))))))))))))))))))))))))))))))))))))))))))))))))))))))))))))))))))))))))))))))))))))))))))))))))))))))))))))))))))))))))))))))))))))))))))))))))))))))))))))))))))))))))))))))))))))))))))))))))))))))))))))))))))))))))))))))))))))))))))))))))))))))))))))))))))))))))))))))))))))))))))))))
def k99:SC:= .seq (.ops [oX 2 (.assign (.const (.slice none 0 0))) 26]) (.seq (.seq (.ops [oM 3 0 26,oB 4 .eql 26 (tK 3) (.const (.slice none 0 0)) 26 4]) (.cond (tK 4) (.seq (.ops [oX 2 (.assign (.const (.slice none 0 0))) 26]) .ret) .skip)) (.seq (.ops [oX 5 (.buildSlice 26 0 #[]) 26,oM 6 0 26,oX 7 (.call ⟨(.builtin .append), #[(tK 5),(tK 6)], #[26,26]⟩) 26,oA 2 7 26]) .ret))
theorem vG:Tryz.f99.body.map (Bf lends)=some k99:=by kernel_rfl
theorem AC6:Bz Tryz.f99 1=true:=by kernel_rfl
theorem qi(A:Option Addr)(c:Nat):Y0.call 99 [.konst (.slice A 0 c)] []=some (.own 3 [],[]):=by
 refine Ab (Y:=Y0) rfl Tryz.func99 AC6 vG ?_;show CF Y0.env k99 (ES Ae 0 [ResultVar.tmp 2] _) _
 unfold k99
 cases A<;>simp only [↓AP,C9,AC4,implies_true,DJ,Qz,Option.isSome_some,↓reduceIte,Nat.reduceEqDiff,Nat.reduceLT,Nat.reduceLeDiff,Nat.reduceAdd,Nat.reduceMul,Nat.reduceMod,Nat.reduceSub,List.contains_cons,List.contains_nil,Nat.reduceBEq,List.getD_cons_zero,List.getD_cons_succ,List.getD_nil,Lt,Pn,List.size_toArray,List.toList_toArray,List.zip_cons_cons,List.zip_nil_left,WK,NV,VC,Tg,List.map_nil,p8,List.replicate_zero,kD,aR,List.set_set,VF,List.any_cons,List.any_nil,List.all_nil,Qw,Td,List.getElem?_nil,List.range_zero,beq_self_eq_true,Int.reduceLE,Int.reduceLT,Int.reduceEq,Int.reduceSub,Int.reduceAdd,Int.reduceToNat,Int.reduceNeg,Option.isNone_none,Option.isNone_some]
theorem A4Q:Dv.Good Tryz.prog Ae 99 [.sl 3 []] [] (.own 3 []) []:=lY kn3 (fun A c=>Dv.Sys.call_good AGL (qi A c))
def vH(f:FuncId)(a l:List D):Option (D×List D):=
 match f,a,l with
 |99,[.sl 3 []],[]=>some (.own 3 [],[])
 |_,_,_=>none
theorem yw: ∀f a l r outs,vH f a l=some (r,outs)→Dv.Good Tryz.prog Ae f a l r outs:=by
 intro f a l r outs h;unfold vH at h
 split at h
 ·simp only [Option.some.injEq,Prod.mk.injEq]at h;obtain⟨rfl,rfl⟩:=h;exact A4Q
 ·cases h
theorem vI: ∀zs:List Int,zs.length<4611686018427387904→Dv.Good Tryz.prog Ae 100 [.vw [100000] 0 0] [.own 3 (JM zs)] (.tup []) [.own 3 (JM (K3 zs))]:=fun zs h=>
 qg ⟨Tryz.f100,Tryz.func100,rfl,by decide⟩ sz3 (fun blk off cap zs w h1 h2 h3=>Tryz.slices_Sort_int blk off cap zs w h1 h2 h3) (fun p cap w=>Tryz.slices_Sort_int_none p cap w) zs h
theorem mG: ∀zs:List Int,zs.length<1099511627776→Dv.Good Tryz.prog Ae 137 [.clo 156 [.cptr [.sl 3 (JM zs)]]] [] (.own 3 (JM (K3 zs))) []:=fun zs h=>
 jC ⟨Tryz.f137,Tryz.func137,rfl,by decide⟩ sz3
  (fun p ad cap w h1 h2=>callsIn_wide.1 (Go.Proofs.sv.sorted_in 5 (KS _) p _ [] (by decide) (by decide) w h1 h2 (.inl ⟨ad,cap,rfl,rfl⟩)))
  (fun p b off cap zs w h0 h1 h2 h3 h4=>callsIn_wide.1 (Go.Proofs.sv.sorted_in 5 (KS _) p _ zs (by have:maxLen=9223372036854775807:=rfl;omega) (by omega) w h1 h2 (.inr ⟨b,off,cap,rfl,h3,h4⟩))) zs h
noncomputable def Y:Dv.Sys:={P:=Tryz.prog,T:=Ae,lends:=lends,base:=U3 (U3 vH (QH 100 3)) (NL 137 156 3)}
theorem yOk:Dv.Sys.Ok Y:=⟨A4P,mixed,V7 (V7 yw (Z0 vI)) (VP mG)⟩
theorem vJ:Ae.ty 900013= .other:=nr rfl
theorem yT:Y.T=Ae:=nr rfl
theorem yL:Y.lends=lends:=nr rfl
set_option maxRecDepth 10000 in
set_option linter.defProp false in
def AC7:=
 A7 @vJ (
 A7 @yT (
 A7 @yL (
 A7 @AGM (
 A7 @AGN (
 A7 @AGO (
 A7 @ty3 (
 A7 @ty4 (
 A7 @ty5 (
 A7 @yu (
 A7 @A4J (
 A7 @A4K (
 A7 @uw (
 A7 @A4L (
 A7 @A9U (
 A7 @A9a (
 A7 @A9g (
 A7 @A9m (
 A7 @A4M (
 A7 @A9x (
 A7 @AA3 (
 A7 @AA9 (
 A7 @AAF (
 A7 @AAL (
 A7 @AAR (
 A7 @AAX (
 A7 @A07 (
 A7 @A0D (
 A7 @A0J (
 A7 @vE (
 A7 @A0U (
 A7 @A0a (
 A7 @A0g (
 A7 @A0m (
 A7 @A0s (
 A7 @A0y (
 A7 @A14 (
 A7 @A1A (
 A7 @A1G (
 A7 @A1M (
 A7 @A1S (
 A7 @kn3 (
 A7 @st3 (
 A7 @sz3 (
 A7 @zr3 (
 A7 @kn4 (
 A7 @st4 (
 A7 @sz4 (
 A7 @zr4 (
 A7 @kn5 (
 A7 @st5 (
 A7 @sz5 (
 A7 @zr5 (
 A7 @A95 (
 A7 @A96 (
 A7 @A99 (
 A7 @A97 (
 A7 @A9A (
 A7 @A9B (
 A7 @A9E (
 A7 @A9C (
 A7 @A9F (
 A7 @A9G (
 A7 @A9J (
 A7 @A9H (
 A7 @A9K (
 A7 @A9L (
 A7 @A9O (
 A7 @A9M (
 A7 @A9P (
 A7 @A9Q (
 A7 @A9T (
 A7 @A9R (
 A7 @A9V (
 A7 @A9W (
 A7 @A9Z (
 A7 @A9X (
 A7 @A9b (
 A7 @A9c (
 A7 @A9f (
 A7 @A9d (
 A7 @A9h (
 A7 @A9i (
 A7 @A9l (
 A7 @A9j (
 A7 @A9n (
 A7 @A9o (
 A7 @A9r (
 A7 @A9p (
 A7 @A9s (
 A7 @A9t (
 A7 @A9w (
 A7 @A9u (
 A7 @A9y (
 A7 @A9z (
 A7 @AA2 (
 A7 @AA0 (
 A7 @AA4 (
 A7 @AA5 (
 A7 @AA8 (
 A7 @AA6 (
 A7 @AAA (
 A7 @AAB (
 A7 @AAE (
 A7 @AAC (
 A7 @AAG (
 A7 @AAH (
 A7 @AAK (
 A7 @AAI (
 A7 @AAM (
 A7 @AAN (
 A7 @AAQ (
 A7 @AAO (
 A7 @AAS (
 A7 @AAT (
 A7 @AAW (
 A7 @AAU (
 A7 @AAY (
 A7 @AAZ (
 A7 @AAc (
 A7 @AAa (
 A7 @A08 (
 A7 @A09 (
 A7 @A0C (
 A7 @A0A (
 A7 @A0E (
 A7 @A0F (
 A7 @A0I (
 A7 @A0G (
 A7 @A0K (
 A7 @A0L (
 A7 @A0O (
 A7 @A0M (
 A7 @A0P (
 A7 @A0Q (
 A7 @A0T (
 A7 @A0R (
 A7 @A0V (
 A7 @A0W (
 A7 @A0Z (
 A7 @A0X (
 A7 @A0b (
 A7 @A0c (
 A7 @A0f (
 A7 @A0d (
 A7 @A0h (
 A7 @A0i (
 A7 @A0l (
 A7 @A0j (
 A7 @A0n (
 A7 @A0o (
 A7 @A0r (
 A7 @A0p (
 A7 @A0t (
 A7 @A0u (
 A7 @A0x (
 A7 @A0v (
 A7 @A0z (
 A7 @A10 (
 A7 @A13 (
 A7 @A11 (
 A7 @A15 (
 A7 @A16 (
 A7 @A19 (
 A7 @A17 (
 A7 @A1B (
 A7 @A1C (
 A7 @A1F (
 A7 @A1D (
 A7 @A1H (
 A7 @A1I (
 A7 @A1L (
 A7 @A1J (
 A7 @A1N (
 A7 @A1O (
 A7 @A1R (
 A7 @A1P (
 A7 @A1T (
 A7 @A1U (
 A7 @A1X (
 A7 @A1V (
 A7 @A9D (
 A7 @A9S (
 A7 @A9Y (
 A7 @A9k (
 A7 @A9q (
 A7 @AAD (
 A7 @AAV (
 A7 @A0B (
 A7 @A0S (
 A7 @uy (
 A7 @uz (
 A7 @vB (
 A7 @vC (
 A7 @vD (
 A7 @zo3 (
 A7 @zo4 (
 A7 @zo5 (
 A7 @A98 (
 A7 @A9I (
 A7 @A9N (
 A7 @A9e (
 A7 @A9v (
 A7 @AA1 (
 A7 @AA7 (
 A7 @AAJ (
 A7 @AAP (
 A7 @AAb (
 A7 @A0H (
 A7 @A0N (
 A7 @A0Y (
 A7 @A0e (
 A7 @A0k (
 A7 @A0q (
 A7 @A0w (
 A7 @A12 (
 A7 @A18 (
 A7 @A1E (
 A7 @A1K (
 A7 @A1Q (
 A7 @A1W (
 A7 @le3 (
 A7 @le4 (
 A7 @le5 (
 A7 @le6 (
 A7 @le7 (
 A7 @le8 (
 A7 @le9 (
 A7 @AAd (
 A7 @AAe (
 A7 @AAf (
 A7 @AAg (
 A7 @AAh (
 A7 @AAi (
 A7 @AAj (
 A7 @AAk (
 A7 @AAl (
 A7 @AAm (
 A7 @AAn (
 A7 @AAo (
 A7 @AAp (
 A7 @AAq (
 A7 @AAr (
 A7 @AAs (
 A7 @AAt (
 A7 @AAu (
 A7 @AAv (
 A7 @AAw (
 A7 @AAx (
 A7 @AAy (
 A7 @AAz (
 A7 @AB0 (
 A7 @AB1 (
 A7 @AB2 (
 A7 @AB3 (
 A7 @AB4 (
 A7 @AB5 (
 A7 @AB6 (
 A7 @AB7 (
 A7 @AB8 (
 A7 @AB9 (
 A7 @ABA (
 A7 @ABB (
 A7 @ABC (
 A7 @ABD (
 A7 @ABE (
 A7 @ABF (
 A7 @ABG (
 A7 @ABH (
 A7 @ABJ (
 A7 @ABK (
 A7 @ABL (
 A7 @ABM (
 A7 @ABN (
 A7 @ABO (
 A7 @ABP (
 A7 @ABQ (
 A7 @ABR (
 A7 @ABS (
 A7 @ABT (
 A7 @ABU (
 A7 @ABV (
 A7 @ABW (
 A7 @ABX (
 A7 @ABY (
 A7 @ABZ (
 A7 @ABa (
 A7 @ABb (
 A7 @A4N (
 A7 @ABc (
 A7 @ABd (
 A7 @ABe (
 A7 @ABf (
 A7 @ABg (
 A7 @ABh (
 A7 @ABi (
 A7 @ABj (
 A7 @ABk (
 A7 @ABl (
 A7 @ABm (
 A7 @ABn (
 A7 @ABo (
 A7 @ABp (
 A7 @ABq (
 A7 @ABr (
 A7 @ABs (
 A7 @ABt (
 A7 @ABu (
 A7 @ABv (
 A7 @ABw (
 A7 @ABx (
 A7 @ABy (
 A7 @ABz (
 A7 @AC0 (
 A7 @AC1 (
 A7 @AC2 (
 A7 @A4O (
 A7 @AC3 (
 A7 @A1Y (
 A7 @A1Z (
 A7 @A1a (
 A7 @A1b (
 A7 @vF (
 A7 @A1c (
 A7 @A1d (
 A7 @A1e (
 A7 @A1f (
 A7 @A1g (
 A7 @A1h (
 A7 @A1i (
 A7 @A1j (
 A7 @A1k (
 A7 @A1l (
 A7 @A1m (
 A7 @A1n (
 A7 @A1o (
 A7 @A1p (
 A7 @A1q (
 A7 @A1r (
 A7 @A1s (
 A7 @A1t (
 A7 @A1u (
 A7 @A1v (
 A7 @A1w (
 A7 @A1x (
 A7 @A1y (
 A7 @A1z (
 A7 @A20 (
 A7 @A21 (
 A7 @A22 (
 A7 @A23 (
 A7 @A24 (
 A7 @A25 (
 A7 @A26 (
 A7 @A27 (
 A7 @A28 (
 A7 @A29 (
 A7 @A2A (
 A7 @A2B (
 A7 @A2C (
 A7 @A2D (
 A7 @A2E (
 A7 @A2F (
 A7 @A2G (
 A7 @A2H (
 A7 @A2I (
 A7 @A2J (
 A7 @A2K (
 A7 @A2L (
 A7 @A2M (
 A7 @A2N (
 A7 @A2O (
 A7 @A2P (
 A7 @A2Q (
 A7 @A2R (
 A7 @A2S (
 A7 @A2T (
 A7 @A2U (
 A7 @A2V (
 A7 @A2W (
 A7 @A2X (
 A7 @A2Y (
 A7 @A2Z (
 A7 @A2a (
 A7 @A2b (
 A7 @A2c (
 A7 @A2d (
 A7 @A2e (
 A7 @A2f (
 A7 @A2g (
 A7 @A2h (
 A7 @A2i (
 A7 @A2j (
 A7 @A2k (
 A7 @A2l (
 A7 @A2m (
 A7 @A2n (
 A7 @A2o (
 A7 @A2p (@A2q)))))))))))))))))))))))))))))))))))))))))))))))))))))))))))))))))))))))))))))))))))))))))))))))))))))))))))))))))))))))))))))))))))))))))))))))))))))))))))))))))))))))))))))))))))))))))))))))))))))))))))))))))))))))))))))))))))))))))))))))))))))))))))))))))))))))))))))))))))))))))))))))))))))))))))))))))))))))))))))))))))))))))))))))))))))))))))))))))))))))))))))))))))))))))))))))))))))))))))))))
theorem mH(zs:List Int)(h:zs.length<1099511627776):Y.call 137 [.clo 156 [.cptr [.sl 3 (AL (D.int .i64) zs)]]] []=some (.own 3 (AL (D.int .i64) (K3 zs)),[]):=Dv.Sys.call_base ((Z4 137 156 3 zs h))
theorem vK(zs:List Int)(h:zs.length<4611686018427387904):Y.call 100 [.vw [100000] 0 0] [.own 3 (AL (D.int .i64) zs)]=some (.tup [],[.own 3 (AL (D.int .i64) (K3 zs))]):=Dv.Sys.call_base (jD<|(jA 100 3 zs h))
theorem vL(xs:List D)(h:xs.length<1099511627776)(hs:xs.all Di=true)(ho:Aj xs=false)(hf:(EL (.own 3 xs)).isSome=true):Y.call 99 [.sl 3 xs] []=some (.own 3 xs,[]):=by
 cases xs with
 |nil=>exact Dv.Sys.call_base rfl
 |cons x xs=>
  refine Ab (Y:=Y) rfl Tryz.func99 AC6 vG ?_;show CF Y.env k99 (ES Ae 0 [ResultVar.tmp 2] _) _
  unfold k99;have h0:0+(x::xs).length<1099511627776:=by omega
  simp only [Lt,Lu]at h0;simp only [VF,ng]at hs ho;simp only [↓AP,C9,AC7,implies_true,DJ,Qz,Option.isSome_some,↓reduceIte,Nat.reduceEqDiff,Nat.reduceLT,Nat.reduceLeDiff,Nat.reduceAdd,Nat.reduceMul,Nat.reduceMod,Nat.reduceSub,List.contains_cons,List.contains_nil,Nat.reduceBEq,List.getD_cons_zero,List.getD_cons_succ,List.getD_nil,Lt,Pn,List.size_toArray,List.toList_toArray,List.zip_cons_cons,List.zip_nil_left,WK,NV,VC,Tg,List.map_nil,p8,List.replicate_zero,kD,aR,List.set_set,VF,List.any_cons,List.any_nil,List.all_nil,Qw,Td,List.getElem?_nil,List.range_zero,beq_self_eq_true,Int.reduceLE,Int.reduceLT,Int.reduceEq,Int.reduceSub,Int.reduceAdd,Int.reduceToNat,Int.reduceNeg,Lu,h0,hs,ho];simp only [A05,ni]at hf;rw [if_pos hf]
set_option linter.defProp false in
def AQ:=A7 C9 (A7 A92 (A7 xc2 (A7 DK AC7)))
end Go.Proofs.YtiehjihckndgkaaGreat
