/- The types of this seat as data, and the system of its calls. Conditions: none. -/
import Derived.Test.YtclkfhhdikfcpaaRows
import Derived.Test.YtclkfhhdikfcpaaL6
import Derived.Test.YtclkfhhdikfcpaaSv
import Derived.KernelRfl
namespace Go.Proofs.Ytclkfhhdikfcpaa
open Go Dv
set_option linter.unusedSimpArgs false
set_option maxRecDepth 100000
def fV:List Ty:=[.other,.func,.int .i64,.int .i64,.bool,.int .u8,.int .u8,.struct [2,3,4,6],.struct [2,3,4,6],.string,.string,.string,.int .u64,.struct [9,12],.struct [9,12],.ptr,.ptr,.ptr,.struct [17],.struct [17],.other,.int .i32,.slice 26,.struct [3,3,22,22],.struct [3,3,22,22],.func,.slice 3,.other,.func,.struct [3,3,22,22],.func,.func,.func,.func,.func,.func,.other,.func,.func,.slice 121,.struct [39,26,26],.struct [39,26,26],.func,.other,.func,.slice 123,.struct [45,26,26],.struct [45,26,26],.func,.func,.func,.other,.func,.func,.func,.func,.struct [3,26,3,3],.struct [3,26,3,3],.other,.func,.func,.func,.struct [3,26,3,3],.func,.func,.func,.func,.func,.slice 4,.func,.struct [3,3,22,22,3,3,22,22,68,68],.struct [3,3,22,22,3,3,22,22,68,68],.func,.func,.func,.ptr,.struct [3,3,22,22,3,3,22,22,26],.struct [3,3,22,22,3,3,22,22,26],.func,.func,.func,.func,.func,.func,.func,.func,.func,.func,.func,.func,.func,.func,.func,.func,.func,.func,.func,.other,.func,.func,.other,.func,.func,.func,.func,.func,.func,.func,.func,.func,.int .u64,.func,.func,.func,.func,.slice 22,.other,.func,.func,.func,.func,.slice 159,.func,.slice 125,.struct [3,3],.struct [3,3],.func,.func,.func,.func,.func,.func,.func,.func,.func,.slice 137,.struct [3,3,3,3],.struct [3,3,3,3],.func,.func,.func,.func,.func,.func,.map 3 3,.func,.func,.func,.func,.func,.func,.int .u32,.other,.func,.int .u64,.other,.func,.func,.func,.struct [3,3],.func,.func,.map 164 3,.arr 14 3,.arr 14 3,.func,.func,.func,.func,.func,.func,.func,.func,.func,.func,.func,.func,.func,.func,.func,.int .i64,.other,.func,.func,.func,.func,.func,.int .u64,.func,.func,.func,.ptr,.func,.ptr,.other,.func,.func,.struct [17,17,17,9],.struct [17,17,17,9],.other,.other,.other,.func,.int .u8,.int .u8,.func,.ptr,.int .i32,.int .i32,.struct [12,12,151,203,5,5,204,205,206,207,208],.struct [12,12,151,203,5,5,204,205,206,207,208],.func]
def jk:List (TypeId×List (Nat×TypeId)):=[(70,[(0,29),(4,29),(8,68),(9,68)]),(71,[(0,29),(4,29),(8,68),(9,68)]),(76,[(0,29),(4,29),(8,26)]),(77,[(0,29),(4,29),(8,26)]),(163,[(0,3),(1,3),(2,3),(3,3),(4,3),(5,3),(6,3),(7,3),(8,3),(9,3),(10,3),(11,3),(12,3),(13,3)]),(164,[(0,3),(1,3),(2,3),(3,3),(4,3),(5,3),(6,3),(7,3),(8,3),(9,3),(10,3),(11,3),(12,3),(13,3)])]
def Ad:Tys:=Zk fV jk
def lends(f:FuncId):Bool:=[16,17,30,47,49,79,88,120,128,152,213].contains f
theorem ty1:Ad.ty 1= .func:=nr rfl
theorem ty2:Ad.ty 2= .int .i64:=nr rfl
theorem vN:Ad.ty 3= .int .i64:=nr rfl
theorem kn3:Ad.known 3=true:=nr rfl
theorem st3:Ad.isStruct 3=false:=nr rfl
theorem zr3:Ad.zeros 3=[.int .i64 0]:=nr rfl
theorem zo3:Ad.zero1 3= .int .i64 0:=nr rfl
theorem sz3:Ad.size 3=1:=nr rfl
theorem ty4:Ad.ty 4= .bool:=nr rfl
theorem kn4:Ad.known 4=true:=nr rfl
theorem st4:Ad.isStruct 4=false:=nr rfl
theorem zr4:Ad.zeros 4=[.bool false]:=nr rfl
theorem zo4:Ad.zero1 4= .bool false:=nr rfl
theorem sz4:Ad.size 4=1:=nr rfl
theorem ty5:Ad.ty 5= .int .u8:=nr rfl
theorem kn5:Ad.known 5=true:=nr rfl
theorem st5:Ad.isStruct 5=false:=nr rfl
theorem zr5:Ad.zeros 5=[.int .u8 0]:=nr rfl
theorem zo5:Ad.zero1 5= .int .u8 0:=nr rfl
theorem sz5:Ad.size 5=1:=nr rfl
theorem ty6:Ad.ty 6= .int .u8:=nr rfl
theorem ty7:Ad.ty 7= .struct [2,3,4,6]:=nr rfl
theorem ty8:Ad.ty 8= .struct [2,3,4,6]:=nr rfl
theorem ty9:Ad.ty 9= .string:=nr rfl
theorem ACz:Ad.ty 10= .string:=nr rfl
theorem AD0:Ad.ty 11= .string:=nr rfl
theorem AD1:Ad.ty 12= .int .u64:=nr rfl
theorem AD2:Ad.ty 13= .struct [9,12]:=nr rfl
theorem AD3:Ad.ty 14= .struct [9,12]:=nr rfl
theorem AD4:Ad.ty 15= .ptr:=nr rfl
theorem AD5:Ad.ty 16= .ptr:=nr rfl
theorem AD6:Ad.ty 17= .ptr:=nr rfl
theorem AD7:Ad.ty 18= .struct [17]:=nr rfl
theorem AD8:Ad.ty 19= .struct [17]:=nr rfl
theorem AD9:Ad.ty 21= .int .i32:=nr rfl
theorem A16:Ad.ty 22= .slice 26:=nr rfl
theorem A17:Ad.known 22=true:=nr rfl
theorem A18:Ad.isStruct 22=false:=nr rfl
theorem A19:Ad.zeros 22=[.own 26 []]:=nr rfl
theorem A1A:Ad.zero1 22= .own 26 []:=nr rfl
theorem A1B:Ad.size 22=1:=nr rfl
theorem ADA:Ad.ty 23= .struct [3,3,22,22]:=nr rfl
theorem A1C:Ad.ty 24= .struct [3,3,22,22]:=nr rfl
theorem A1D:Ad.known 24=true:=nr rfl
theorem A1E:Ad.isStruct 24=true:=nr rfl
theorem A1F:Ad.zeros 24=[.int .i64 0,.int .i64 0,.own 26 [],.own 26 []]:=nr rfl
theorem A1G:Ad.nest 24=none:=nr rfl
theorem A1H:Ad.size 24=4:=nr rfl
theorem ADB:Ad.ty 25= .func:=nr rfl
theorem iX:Ad.ty 26= .slice 3:=nr rfl
theorem vO:Ad.known 26=true:=nr rfl
theorem A1I:Ad.isStruct 26=false:=nr rfl
theorem A1J:Ad.zeros 26=[.own 3 []]:=nr rfl
theorem A1K:Ad.zero1 26= .own 3 []:=nr rfl
theorem vP:Ad.size 26=1:=nr rfl
theorem ADC:Ad.ty 28= .func:=nr rfl
theorem A1L:Ad.ty 29= .struct [3,3,22,22]:=nr rfl
theorem A1M:Ad.known 29=true:=nr rfl
theorem A1N:Ad.isStruct 29=true:=nr rfl
theorem A1O:Ad.zeros 29=[.int .i64 0,.int .i64 0,.own 26 [],.own 26 []]:=nr rfl
theorem A1P:Ad.nest 29=none:=nr rfl
theorem A1Q:Ad.size 29=4:=nr rfl
theorem ADE:Ad.ty 30= .func:=nr rfl
theorem ADF:Ad.ty 31= .func:=nr rfl
theorem ADG:Ad.ty 32= .func:=nr rfl
theorem ADH:Ad.ty 33= .func:=nr rfl
theorem ADI:Ad.ty 34= .func:=nr rfl
theorem ADJ:Ad.ty 35= .func:=nr rfl
theorem ADK:Ad.ty 37= .func:=nr rfl
theorem ADL:Ad.ty 38= .func:=nr rfl
theorem vQ:Ad.ty 39= .slice 121:=nr rfl
theorem A1R:Ad.known 39=true:=nr rfl
theorem A1S:Ad.isStruct 39=false:=nr rfl
theorem A1T:Ad.zeros 39=[.own 121 []]:=nr rfl
theorem A1U:Ad.zero1 39= .own 121 []:=nr rfl
theorem A1V:Ad.size 39=1:=nr rfl
theorem ADM:Ad.ty 40= .struct [39,26,26]:=nr rfl
theorem vR:Ad.ty 41= .struct [39,26,26]:=nr rfl
theorem A1W:Ad.known 41=true:=nr rfl
theorem A1X:Ad.isStruct 41=true:=nr rfl
theorem A1Y:Ad.zeros 41=[.own 121 [],.own 3 [],.own 3 []]:=nr rfl
theorem A1Z:Ad.nest 41=none:=nr rfl
theorem A1a:Ad.size 41=3:=nr rfl
theorem ADN:Ad.ty 42= .func:=nr rfl
theorem ADO:Ad.ty 44= .func:=nr rfl
theorem A1b:Ad.ty 45= .slice 123:=nr rfl
theorem A1c:Ad.known 45=true:=nr rfl
theorem A1d:Ad.isStruct 45=false:=nr rfl
theorem A1e:Ad.zeros 45=[.own 123 []]:=nr rfl
theorem A1f:Ad.zero1 45= .own 123 []:=nr rfl
theorem A1g:Ad.size 45=1:=nr rfl
theorem ADP:Ad.ty 46= .struct [45,26,26]:=nr rfl
theorem A1h:Ad.ty 47= .struct [45,26,26]:=nr rfl
theorem A1i:Ad.known 47=true:=nr rfl
theorem A1j:Ad.isStruct 47=true:=nr rfl
theorem A1k:Ad.zeros 47=[.own 123 [],.own 3 [],.own 3 []]:=nr rfl
theorem A1l:Ad.nest 47=none:=nr rfl
theorem A1m:Ad.size 47=3:=nr rfl
theorem ADQ:Ad.ty 48= .func:=nr rfl
theorem ADR:Ad.ty 49= .func:=nr rfl
theorem ADS:Ad.ty 50= .func:=nr rfl
theorem ADT:Ad.ty 52= .func:=nr rfl
theorem ADU:Ad.ty 53= .func:=nr rfl
theorem ADV:Ad.ty 54= .func:=nr rfl
theorem ADW:Ad.ty 55= .func:=nr rfl
theorem ADX:Ad.ty 56= .struct [3,26,3,3]:=nr rfl
theorem A1n:Ad.ty 57= .struct [3,26,3,3]:=nr rfl
theorem A1o:Ad.known 57=true:=nr rfl
theorem A1p:Ad.isStruct 57=true:=nr rfl
theorem A1q:Ad.zeros 57=[.int .i64 0,.own 3 [],.int .i64 0,.int .i64 0]:=nr rfl
theorem A1r:Ad.nest 57=none:=nr rfl
theorem A1s:Ad.size 57=4:=nr rfl
theorem ADY:Ad.ty 59= .func:=nr rfl
theorem ADZ:Ad.ty 60= .func:=nr rfl
theorem ADa:Ad.ty 61= .func:=nr rfl
theorem vS:Ad.ty 62= .struct [3,26,3,3]:=nr rfl
theorem A1t:Ad.known 62=true:=nr rfl
theorem A1u:Ad.isStruct 62=true:=nr rfl
theorem A1v:Ad.zeros 62=[.int .i64 0,.own 3 [],.int .i64 0,.int .i64 0]:=nr rfl
theorem A1w:Ad.nest 62=none:=nr rfl
theorem A1x:Ad.size 62=4:=nr rfl
theorem ADb:Ad.ty 63= .func:=nr rfl
theorem ADc:Ad.ty 64= .func:=nr rfl
theorem ADd:Ad.ty 65= .func:=nr rfl
theorem ADe:Ad.ty 66= .func:=nr rfl
theorem ADf:Ad.ty 67= .func:=nr rfl
theorem A1y:Ad.ty 68= .slice 4:=nr rfl
theorem A1z:Ad.known 68=true:=nr rfl
theorem A20:Ad.isStruct 68=false:=nr rfl
theorem A21:Ad.zeros 68=[.own 4 []]:=nr rfl
theorem A22:Ad.zero1 68= .own 4 []:=nr rfl
theorem A23:Ad.size 68=1:=nr rfl
theorem ADg:Ad.ty 69= .func:=nr rfl
theorem ADh:Ad.ty 70= .struct [3,3,22,22,3,3,22,22,68,68]:=nr rfl
theorem A24:Ad.ty 71= .struct [3,3,22,22,3,3,22,22,68,68]:=nr rfl
theorem A25:Ad.known 71=true:=nr rfl
theorem A26:Ad.isStruct 71=true:=nr rfl
theorem A27:Ad.zeros 71=[.int .i64 0,.int .i64 0,.own 26 [],.own 26 [],.int .i64 0,.int .i64 0,.own 26 [],.own 26 [],.own 4 [],.own 4 []]:=nr rfl
theorem A28:Ad.nest 71=some [(0,29),(4,29),(8,68),(9,68)]:=nr rfl
theorem dW:Ad.foff 71 0=some 0:=nr rfl
theorem dX:Ad.foff 71 1=some 4:=nr rfl
theorem dY:Ad.foff 71 2=some 8:=nr rfl
theorem dZ:Ad.foff 71 3=some 9:=nr rfl
theorem A29:Ad.size 71=10:=nr rfl
theorem ADi:Ad.ty 72= .func:=nr rfl
theorem ADj:Ad.ty 73= .func:=nr rfl
theorem ADk:Ad.ty 74= .func:=nr rfl
theorem A2A:Ad.ty 75= .ptr:=nr rfl
theorem A2B:Ad.known 75=true:=nr rfl
theorem A2C:Ad.isStruct 75=false:=nr rfl
theorem A2D:Ad.zeros 75=[.konst (.pointer none)]:=nr rfl
theorem A2E:Ad.zero1 75= .konst (.pointer none):=nr rfl
theorem A2F:Ad.size 75=1:=nr rfl
theorem ADl:Ad.ty 76= .struct [3,3,22,22,3,3,22,22,26]:=nr rfl
theorem A2G:Ad.ty 77= .struct [3,3,22,22,3,3,22,22,26]:=nr rfl
theorem A2H:Ad.known 77=true:=nr rfl
theorem A2I:Ad.isStruct 77=true:=nr rfl
theorem A2J:Ad.zeros 77=[.int .i64 0,.int .i64 0,.own 26 [],.own 26 [],.int .i64 0,.int .i64 0,.own 26 [],.own 26 [],.own 3 []]:=nr rfl
theorem A2K:Ad.nest 77=some [(0,29),(4,29),(8,26)]:=nr rfl
theorem df:Ad.foff 77 0=some 0:=nr rfl
theorem dh:Ad.foff 77 1=some 4:=nr rfl
theorem dm:Ad.foff 77 2=some 8:=nr rfl
theorem A2L:Ad.size 77=9:=nr rfl
theorem ADm:Ad.ty 78= .func:=nr rfl
theorem ADn:Ad.ty 79= .func:=nr rfl
theorem ADo:Ad.ty 80= .func:=nr rfl
theorem ADp:Ad.ty 81= .func:=nr rfl
theorem ADq:Ad.ty 82= .func:=nr rfl
theorem ADr:Ad.ty 83= .func:=nr rfl
theorem ADs:Ad.ty 84= .func:=nr rfl
theorem ADt:Ad.ty 85= .func:=nr rfl
theorem ADu:Ad.ty 86= .func:=nr rfl
theorem A2M:Ad.ty 87= .func:=nr rfl
theorem A2N:Ad.known 87=true:=nr rfl
theorem A2O:Ad.isStruct 87=false:=nr rfl
theorem A2P:Ad.zeros 87=[.konst .nilFunc]:=nr rfl
theorem A2Q:Ad.zero1 87= .konst .nilFunc:=nr rfl
theorem A2R:Ad.size 87=1:=nr rfl
theorem ADv:Ad.ty 88= .func:=nr rfl
theorem ADw:Ad.ty 89= .func:=nr rfl
theorem ADx:Ad.ty 90= .func:=nr rfl
theorem ADy:Ad.ty 91= .func:=nr rfl
theorem ADz:Ad.ty 92= .func:=nr rfl
theorem AE0:Ad.ty 93= .func:=nr rfl
theorem AE1:Ad.ty 94= .func:=nr rfl
theorem AE2:Ad.ty 95= .func:=nr rfl
theorem A2S:Ad.ty 96= .func:=nr rfl
theorem A2T:Ad.known 96=true:=nr rfl
theorem A2U:Ad.isStruct 96=false:=nr rfl
theorem A2V:Ad.zeros 96=[.konst .nilFunc]:=nr rfl
theorem A2W:Ad.zero1 96= .konst .nilFunc:=nr rfl
theorem A2X:Ad.size 96=1:=nr rfl
theorem AE3:Ad.ty 98= .func:=nr rfl
theorem AE4:Ad.ty 99= .func:=nr rfl
theorem AAK:Ad.ty 101= .func:=nr rfl
theorem AAL:Ad.ty 102= .func:=nr rfl
theorem AAM:Ad.ty 103= .func:=nr rfl
theorem AAN:Ad.ty 104= .func:=nr rfl
theorem AAO:Ad.ty 105= .func:=nr rfl
theorem AAP:Ad.ty 106= .func:=nr rfl
theorem AAQ:Ad.ty 107= .func:=nr rfl
theorem AAR:Ad.ty 108= .func:=nr rfl
theorem AAS:Ad.ty 109= .func:=nr rfl
theorem jr:Ad.ty 110= .int .u64:=nr rfl
theorem jv:Ad.known 110=true:=nr rfl
theorem jw:Ad.isStruct 110=false:=nr rfl
theorem jy:Ad.zeros 110=[.int .u64 0]:=nr rfl
theorem kC:Ad.zero1 110= .int .u64 0:=nr rfl
theorem kD:Ad.size 110=1:=nr rfl
theorem AAT:Ad.ty 111= .func:=nr rfl
theorem AAU:Ad.ty 112= .func:=nr rfl
theorem AAV:Ad.ty 113= .func:=nr rfl
theorem AAW:Ad.ty 114= .func:=nr rfl
theorem kE:Ad.ty 115= .slice 22:=nr rfl
theorem kF:Ad.known 115=true:=nr rfl
theorem kG:Ad.isStruct 115=false:=nr rfl
theorem kH:Ad.zeros 115=[.own 22 []]:=nr rfl
theorem kI:Ad.zero1 115= .own 22 []:=nr rfl
theorem kJ:Ad.size 115=1:=nr rfl
theorem AAX:Ad.ty 117= .func:=nr rfl
theorem AAY:Ad.ty 118= .func:=nr rfl
theorem AAZ:Ad.ty 119= .func:=nr rfl
theorem AAa:Ad.ty 120= .func:=nr rfl
theorem dn:Ad.ty 121= .slice 159:=nr rfl
theorem kK:Ad.known 121=true:=nr rfl
theorem kL:Ad.isStruct 121=false:=nr rfl
theorem kM:Ad.zeros 121=[.own 159 []]:=nr rfl
theorem kN:Ad.zero1 121= .own 159 []:=nr rfl
theorem kP:Ad.size 121=1:=nr rfl
theorem AAb:Ad.ty 122= .func:=nr rfl
theorem kQ:Ad.ty 123= .slice 125:=nr rfl
theorem kR:Ad.known 123=true:=nr rfl
theorem kS:Ad.isStruct 123=false:=nr rfl
theorem kT:Ad.zeros 123=[.own 125 []]:=nr rfl
theorem kU:Ad.zero1 123= .own 125 []:=nr rfl
theorem kV:Ad.size 123=1:=nr rfl
theorem AAc:Ad.ty 124= .struct [3,3]:=nr rfl
theorem kW:Ad.ty 125= .struct [3,3]:=nr rfl
theorem kX:Ad.known 125=true:=nr rfl
theorem kY:Ad.isStruct 125=true:=nr rfl
theorem kZ:Ad.zeros 125=[.int .i64 0,.int .i64 0]:=nr rfl
theorem kg:Ad.nest 125=none:=nr rfl
theorem ko:Ad.size 125=2:=nr rfl
theorem AAd:Ad.ty 126= .func:=nr rfl
theorem AAe:Ad.ty 127= .func:=nr rfl
theorem AAf:Ad.ty 128= .func:=nr rfl
theorem AAg:Ad.ty 129= .func:=nr rfl
theorem AAh:Ad.ty 130= .func:=nr rfl
theorem kr:Ad.ty 131= .func:=nr rfl
theorem ku:Ad.known 131=true:=nr rfl
theorem kv:Ad.isStruct 131=false:=nr rfl
theorem kw:Ad.zeros 131=[.konst .nilFunc]:=nr rfl
theorem ky:Ad.zero1 131= .konst .nilFunc:=nr rfl
theorem kz:Ad.size 131=1:=nr rfl
theorem l5:Ad.ty 132= .func:=nr rfl
theorem l6:Ad.known 132=true:=nr rfl
theorem l7:Ad.isStruct 132=false:=nr rfl
theorem lC:Ad.zeros 132=[.konst .nilFunc]:=nr rfl
theorem lD:Ad.zero1 132= .konst .nilFunc:=nr rfl
theorem lF:Ad.size 132=1:=nr rfl
theorem AAi:Ad.ty 133= .func:=nr rfl
theorem AAj:Ad.ty 134= .func:=nr rfl
theorem lG:Ad.ty 135= .slice 137:=nr rfl
theorem lH:Ad.known 135=true:=nr rfl
theorem lI:Ad.isStruct 135=false:=nr rfl
theorem lJ:Ad.zeros 135=[.own 137 []]:=nr rfl
theorem lK:Ad.zero1 135= .own 137 []:=nr rfl
theorem lL:Ad.size 135=1:=nr rfl
theorem AAk:Ad.ty 136= .struct [3,3,3,3]:=nr rfl
theorem lM:Ad.ty 137= .struct [3,3,3,3]:=nr rfl
theorem lN:Ad.known 137=true:=nr rfl
theorem lQ:Ad.isStruct 137=true:=nr rfl
theorem lS:Ad.zeros 137=[.int .i64 0,.int .i64 0,.int .i64 0,.int .i64 0]:=nr rfl
theorem lT:Ad.nest 137=none:=nr rfl
theorem lU:Ad.size 137=4:=nr rfl
theorem AAl:Ad.ty 138= .func:=nr rfl
theorem lV:Ad.ty 139= .func:=nr rfl
theorem lW:Ad.known 139=true:=nr rfl
theorem lX:Ad.isStruct 139=false:=nr rfl
theorem lY:Ad.zeros 139=[.konst .nilFunc]:=nr rfl
theorem lZ:Ad.zero1 139= .konst .nilFunc:=nr rfl
theorem lg:Ad.size 139=1:=nr rfl
theorem AAm:Ad.ty 140= .func:=nr rfl
theorem AAn:Ad.ty 141= .func:=nr rfl
theorem AAo:Ad.ty 142= .func:=nr rfl
theorem AAp:Ad.ty 143= .func:=nr rfl
theorem lh:Ad.ty 144= .map 3 3:=nr rfl
theorem AAq:Ad.ty 145= .func:=nr rfl
theorem AAr:Ad.ty 146= .func:=nr rfl
theorem AAs:Ad.ty 147= .func:=nr rfl
theorem ll:Ad.ty 148= .func:=nr rfl
theorem lm:Ad.known 148=true:=nr rfl
theorem lq:Ad.isStruct 148=false:=nr rfl
theorem lu:Ad.zeros 148=[.konst .nilFunc]:=nr rfl
theorem lw:Ad.zero1 148= .konst .nilFunc:=nr rfl
theorem mD:Ad.size 148=1:=nr rfl
theorem AAt:Ad.ty 149= .func:=nr rfl
theorem AAu:Ad.ty 150= .func:=nr rfl
theorem mE:Ad.ty 151= .int .u32:=nr rfl
theorem mF:Ad.known 151=true:=nr rfl
theorem mG:Ad.isStruct 151=false:=nr rfl
theorem mH:Ad.zeros 151=[.int .u32 0]:=nr rfl
theorem mI:Ad.zero1 151= .int .u32 0:=nr rfl
theorem mJ:Ad.size 151=1:=nr rfl
theorem AAv:Ad.ty 153= .func:=nr rfl
theorem mK:Ad.ty 154= .int .u64:=nr rfl
theorem mM:Ad.known 154=true:=nr rfl
theorem mO:Ad.isStruct 154=false:=nr rfl
theorem mP:Ad.zeros 154=[.int .u64 0]:=nr rfl
theorem mQ:Ad.zero1 154= .int .u64 0:=nr rfl
theorem mR:Ad.size 154=1:=nr rfl
theorem AAw:Ad.ty 156= .func:=nr rfl
theorem AAx:Ad.ty 157= .func:=nr rfl
theorem AAy:Ad.ty 158= .func:=nr rfl
theorem dw:Ad.ty 159= .struct [3,3]:=nr rfl
theorem mU:Ad.known 159=true:=nr rfl
theorem mV:Ad.isStruct 159=true:=nr rfl
theorem mW:Ad.zeros 159=[.int .i64 0,.int .i64 0]:=nr rfl
theorem mX:Ad.nest 159=none:=nr rfl
theorem mY:Ad.size 159=2:=nr rfl
theorem AAz:Ad.ty 160= .func:=nr rfl
theorem AB0:Ad.ty 161= .func:=nr rfl
theorem mZ:Ad.ty 162= .map 164 3:=nr rfl
theorem AB1:Ad.ty 163= .arr 14 3:=nr rfl
theorem ma:Ad.ty 164= .arr 14 3:=nr rfl
theorem mf:Ad.known 164=true:=nr rfl
theorem mg:Ad.isStruct 164=true:=nr rfl
theorem mh:Ad.zeros 164=[.int .i64 0,.int .i64 0,.int .i64 0,.int .i64 0,.int .i64 0,.int .i64 0,.int .i64 0,.int .i64 0,.int .i64 0,.int .i64 0,.int .i64 0,.int .i64 0,.int .i64 0,.int .i64 0]:=nr rfl
theorem mo:Ad.nest 164=some [(0,3),(1,3),(2,3),(3,3),(4,3),(5,3),(6,3),(7,3),(8,3),(9,3),(10,3),(11,3),(12,3),(13,3)]:=nr rfl
theorem mq:Ad.size 164=14:=nr rfl
theorem AB2:Ad.ty 165= .func:=nr rfl
theorem AB3:Ad.ty 166= .func:=nr rfl
theorem mr:Ad.ty 167= .func:=nr rfl
theorem nA:Ad.known 167=true:=nr rfl
theorem nC:Ad.isStruct 167=false:=nr rfl
theorem nD:Ad.zeros 167=[.konst .nilFunc]:=nr rfl
theorem nE:Ad.zero1 167= .konst .nilFunc:=nr rfl
theorem nG:Ad.size 167=1:=nr rfl
theorem AB4:Ad.ty 168= .func:=nr rfl
theorem AB5:Ad.ty 169= .func:=nr rfl
theorem AB6:Ad.ty 170= .func:=nr rfl
theorem AB7:Ad.ty 171= .func:=nr rfl
theorem AB8:Ad.ty 172= .func:=nr rfl
theorem AB9:Ad.ty 173= .func:=nr rfl
theorem ABA:Ad.ty 174= .func:=nr rfl
theorem ABB:Ad.ty 175= .func:=nr rfl
theorem ABC:Ad.ty 176= .func:=nr rfl
theorem ABD:Ad.ty 177= .func:=nr rfl
theorem ABE:Ad.ty 178= .func:=nr rfl
theorem ABF:Ad.ty 179= .func:=nr rfl
theorem nH:Ad.ty 180= .int .i64:=nr rfl
theorem nI:Ad.known 180=true:=nr rfl
theorem nJ:Ad.isStruct 180=false:=nr rfl
theorem nK:Ad.zeros 180=[.int .i64 0]:=nr rfl
theorem nL:Ad.zero1 180= .int .i64 0:=nr rfl
theorem nM:Ad.size 180=1:=nr rfl
theorem ABG:Ad.ty 182= .func:=nr rfl
theorem ABH:Ad.ty 183= .func:=nr rfl
theorem ABJ:Ad.ty 184= .func:=nr rfl
theorem ABK:Ad.ty 185= .func:=nr rfl
theorem ABL:Ad.ty 186= .func:=nr rfl
theorem nN:Ad.ty 187= .int .u64:=nr rfl
theorem nO:Ad.known 187=true:=nr rfl
theorem nP:Ad.isStruct 187=false:=nr rfl
theorem nQ:Ad.zeros 187=[.int .u64 0]:=nr rfl
theorem nR:Ad.zero1 187= .int .u64 0:=nr rfl
theorem nS:Ad.size 187=1:=nr rfl
theorem ABM:Ad.ty 188= .func:=nr rfl
theorem ABN:Ad.ty 189= .func:=nr rfl
theorem ABO:Ad.ty 190= .func:=nr rfl
theorem nT:Ad.ty 191= .ptr:=nr rfl
theorem nU:Ad.known 191=true:=nr rfl
theorem nV:Ad.isStruct 191=false:=nr rfl
theorem nW:Ad.zeros 191=[.konst (.pointer none)]:=nr rfl
theorem nX:Ad.zero1 191= .konst (.pointer none):=nr rfl
theorem nY:Ad.size 191=1:=nr rfl
theorem ABP:Ad.ty 192= .func:=nr rfl
theorem ABQ:Ad.ty 193= .ptr:=nr rfl
theorem ABR:Ad.ty 195= .func:=nr rfl
theorem ABS:Ad.ty 196= .func:=nr rfl
theorem ABT:Ad.ty 197= .struct [17,17,17,9]:=nr rfl
theorem ABU:Ad.ty 198= .struct [17,17,17,9]:=nr rfl
theorem ABV:Ad.ty 202= .func:=nr rfl
theorem ABW:Ad.ty 203= .int .u8:=nr rfl
theorem ABX:Ad.ty 204= .int .u8:=nr rfl
theorem ABY:Ad.ty 205= .func:=nr rfl
theorem ABZ:Ad.ty 206= .ptr:=nr rfl
theorem ABa:Ad.ty 207= .int .i32:=nr rfl
theorem ABb:Ad.ty 208= .int .i32:=nr rfl
theorem ABc:Ad.ty 209= .struct [12,12,151,203,5,5,204,205,206,207,208]:=nr rfl
theorem ABd:Ad.ty 210= .struct [12,12,151,203,5,5,204,205,206,207,208]:=nr rfl
theorem ABe:Ad.ty 211= .func:=nr rfl
theorem le3:lends 3=false:=nr rfl
theorem le4:lends 4=false:=nr rfl
theorem le5:lends 5=false:=nr rfl
theorem le6:lends 6=false:=nr rfl
theorem le7:lends 7=false:=nr rfl
theorem le8:lends 8=false:=nr rfl
theorem le9:lends 9=false:=nr rfl
theorem A2Y:lends 10=false:=nr rfl
theorem A2Z:lends 11=false:=nr rfl
theorem A2a:lends 12=false:=nr rfl
theorem A2b:lends 13=false:=nr rfl
theorem A2c:lends 14=false:=nr rfl
theorem A2d:lends 15=false:=nr rfl
theorem A2e:lends 16=true:=nr rfl
theorem A2f:lends 17=true:=nr rfl
theorem A2g:lends 18=false:=nr rfl
theorem A2h:lends 19=false:=nr rfl
theorem A2i:lends 20=false:=nr rfl
theorem A2j:lends 21=false:=nr rfl
theorem A2k:lends 22=false:=nr rfl
theorem A2l:lends 23=false:=nr rfl
theorem A2m:lends 24=false:=nr rfl
theorem A2n:lends 25=false:=nr rfl
theorem A2o:lends 26=false:=nr rfl
theorem A2p:lends 27=false:=nr rfl
theorem A2q:lends 28=false:=nr rfl
theorem A2r:lends 29=false:=nr rfl
theorem A2s:lends 30=true:=nr rfl
theorem A2t:lends 31=false:=nr rfl
theorem A2u:lends 32=false:=nr rfl
theorem A2v:lends 33=false:=nr rfl
theorem A2w:lends 34=false:=nr rfl
theorem A2x:lends 35=false:=nr rfl
theorem A2y:lends 36=false:=nr rfl
theorem A2z:lends 37=false:=nr rfl
theorem A30:lends 38=false:=nr rfl
theorem A31:lends 39=false:=nr rfl
theorem A32:lends 40=false:=nr rfl
theorem A33:lends 41=false:=nr rfl
theorem A34:lends 42=false:=nr rfl
theorem A35:lends 43=false:=nr rfl
theorem A36:lends 44=false:=nr rfl
theorem A37:lends 45=false:=nr rfl
theorem A38:lends 46=false:=nr rfl
theorem A39:lends 47=true:=nr rfl
theorem A3A:lends 48=false:=nr rfl
theorem A3B:lends 49=true:=nr rfl
theorem A3C:lends 50=false:=nr rfl
theorem A3D:lends 51=false:=nr rfl
theorem A3E:lends 52=false:=nr rfl
theorem A3F:lends 53=false:=nr rfl
theorem A3G:lends 54=false:=nr rfl
theorem A3H:lends 55=false:=nr rfl
theorem A3I:lends 56=false:=nr rfl
theorem A3J:lends 57=false:=nr rfl
theorem A3K:lends 58=false:=nr rfl
theorem A3L:lends 59=false:=nr rfl
theorem A3M:lends 60=false:=nr rfl
theorem A3N:lends 61=false:=nr rfl
theorem A3O:lends 62=false:=nr rfl
theorem A3P:lends 63=false:=nr rfl
theorem A3Q:lends 64=false:=nr rfl
theorem A3R:lends 65=false:=nr rfl
theorem A3S:lends 66=false:=nr rfl
theorem A3T:lends 67=false:=nr rfl
theorem A3U:lends 68=false:=nr rfl
theorem A3V:lends 69=false:=nr rfl
theorem A3W:lends 70=false:=nr rfl
theorem A3X:lends 71=false:=nr rfl
theorem A3Y:lends 72=false:=nr rfl
theorem A3Z:lends 73=false:=nr rfl
theorem A3a:lends 74=false:=nr rfl
theorem A3b:lends 75=false:=nr rfl
theorem A3c:lends 76=false:=nr rfl
theorem A3d:lends 77=false:=nr rfl
theorem A3e:lends 78=false:=nr rfl
theorem A3f:lends 79=true:=nr rfl
theorem A3g:lends 80=false:=nr rfl
theorem A3h:lends 81=false:=nr rfl
theorem A3i:lends 82=false:=nr rfl
theorem A3j:lends 83=false:=nr rfl
theorem A3k:lends 84=false:=nr rfl
theorem A3l:lends 85=false:=nr rfl
theorem A3m:lends 86=false:=nr rfl
theorem A3n:lends 87=false:=nr rfl
theorem A3o:lends 88=true:=nr rfl
theorem A3p:lends 89=false:=nr rfl
theorem A3q:lends 90=false:=nr rfl
theorem A3r:lends 91=false:=nr rfl
theorem A3s:lends 92=false:=nr rfl
theorem A3t:lends 93=false:=nr rfl
theorem A3u:lends 94=false:=nr rfl
theorem A3v:lends 95=false:=nr rfl
theorem A3w:lends 96=false:=nr rfl
theorem A3x:lends 97=false:=nr rfl
theorem A3y:lends 98=false:=nr rfl
theorem A3z:lends 99=false:=nr rfl
theorem nZ:lends 100=false:=nr rfl
theorem ng:lends 101=false:=nr rfl
theorem ni:lends 102=false:=nr rfl
theorem nk:lends 103=false:=nr rfl
theorem nu:lends 104=false:=nr rfl
theorem ny:lends 105=false:=nr rfl
theorem nz:lends 106=false:=nr rfl
theorem oD:lends 107=false:=nr rfl
theorem oG:lends 108=false:=nr rfl
theorem oH:lends 109=false:=nr rfl
theorem oJ:lends 110=false:=nr rfl
theorem oK:lends 111=false:=nr rfl
theorem oO:lends 112=false:=nr rfl
theorem oP:lends 113=false:=nr rfl
theorem oQ:lends 114=false:=nr rfl
theorem oU:lends 115=false:=nr rfl
theorem oV:lends 116=false:=nr rfl
theorem oW:lends 117=false:=nr rfl
theorem oZ:lends 118=false:=nr rfl
theorem og:lends 119=false:=nr rfl
theorem ol:lends 120=true:=nr rfl
theorem oo:lends 121=false:=nr rfl
theorem oq:lends 122=false:=nr rfl
theorem ou:lends 123=false:=nr rfl
theorem ow:lends 124=false:=nr rfl
theorem oz:lends 125=false:=nr rfl
theorem p8:lends 126=false:=nr rfl
theorem p9:lends 127=false:=nr rfl
theorem pE:lends 128=true:=nr rfl
theorem pF:lends 129=false:=nr rfl
theorem pG:lends 130=false:=nr rfl
theorem pI:lends 131=false:=nr rfl
theorem pJ:lends 132=false:=nr rfl
theorem pK:lends 133=false:=nr rfl
theorem dz:lends 134=false:=nr rfl
theorem pM:lends 135=false:=nr rfl
theorem pO:lends 136=false:=nr rfl
theorem pQ:lends 137=false:=nr rfl
theorem pR:lends 138=false:=nr rfl
theorem pU:lends 139=false:=nr rfl
theorem pV:lends 140=false:=nr rfl
theorem pW:lends 141=false:=nr rfl
theorem pX:lends 142=false:=nr rfl
theorem pY:lends 143=false:=nr rfl
theorem pg:lends 144=false:=nr rfl
theorem pq:lends 145=false:=nr rfl
theorem pu:lends 146=false:=nr rfl
theorem pz:lends 147=false:=nr rfl
theorem qA:lends 148=false:=nr rfl
theorem qB:lends 149=false:=nr rfl
theorem qC:lends 150=false:=nr rfl
theorem qD:lends 151=false:=nr rfl
theorem qE:lends 152=true:=nr rfl
theorem qF:lends 153=false:=nr rfl
theorem qG:lends 154=false:=nr rfl
theorem qH:lends 155=false:=nr rfl
theorem qI:lends 156=false:=nr rfl
theorem qJ:lends 157=false:=nr rfl
theorem qK:lends 158=false:=nr rfl
theorem qL:lends 159=false:=nr rfl
theorem qM:lends 160=false:=nr rfl
theorem eB:lends 161=false:=nr rfl
theorem qN:lends 162=false:=nr rfl
theorem qO:lends 163=false:=nr rfl
theorem qP:lends 164=false:=nr rfl
theorem qQ:lends 165=false:=nr rfl
theorem qR:lends 166=false:=nr rfl
theorem qU:lends 167=false:=nr rfl
theorem qV:lends 168=false:=nr rfl
theorem qW:lends 169=false:=nr rfl
theorem eD:lends 170=false:=nr rfl
theorem qX:lends 171=false:=nr rfl
theorem qY:lends 172=false:=nr rfl
theorem qZ:lends 173=false:=nr rfl
theorem qa:lends 174=false:=nr rfl
theorem qb:lends 175=false:=nr rfl
theorem qc:lends 176=false:=nr rfl
theorem qd:lends 177=false:=nr rfl
theorem qf:lends 178=false:=nr rfl
theorem qg:lends 179=false:=nr rfl
theorem qh:lends 180=false:=nr rfl
theorem qi:lends 181=false:=nr rfl
theorem qj:lends 182=false:=nr rfl
theorem ql:lends 183=false:=nr rfl
theorem qm:lends 184=false:=nr rfl
theorem qo:lends 185=false:=nr rfl
theorem qp:lends 186=false:=nr rfl
theorem qw:lends 187=false:=nr rfl
theorem qx:lends 188=false:=nr rfl
theorem qy:lends 189=false:=nr rfl
theorem qz:lends 190=false:=nr rfl
theorem rA:lends 191=false:=nr rfl
theorem rC:lends 192=false:=nr rfl
theorem rD:lends 193=false:=nr rfl
theorem rE:lends 194=false:=nr rfl
theorem rF:lends 195=false:=nr rfl
theorem rG:lends 196=false:=nr rfl
theorem rH:lends 197=false:=nr rfl
theorem rJ:lends 198=false:=nr rfl
theorem rM:lends 199=false:=nr rfl
theorem rO:lends 200=false:=nr rfl
theorem rP:lends 201=false:=nr rfl
theorem rQ:lends 202=false:=nr rfl
theorem rR:lends 203=false:=nr rfl
theorem rT:lends 204=false:=nr rfl
theorem rU:lends 205=false:=nr rfl
theorem rV:lends 206=false:=nr rfl
theorem rW:lends 207=false:=nr rfl
theorem rX:lends 208=false:=nr rfl
theorem rY:lends 209=false:=nr rfl
theorem rZ:lends 210=false:=nr rfl
theorem rf:lends 211=false:=nr rfl
theorem rq:lends 212=false:=nr rfl
theorem ru:lends 213=true:=nr rfl
theorem ry:lends 214=false:=nr rfl
theorem rz:lends 215=false:=nr rfl
set_option maxRecDepth 100000 in
theorem iY:BR Try.prog Ad:=uD (by kernel_rfl)
theorem mixed:Try.prog.follows .mixedOrders=true:=by kernel_rfl
noncomputable def Y0:Dv.Sys:={P:=Try.prog,T:=Ad,lends:=lends,base:=fun _ _ _=>none}
theorem A8M:Dv.Sys.Ok Y0:=⟨iY,mixed,fun _ _ _ _ _ h=>by cases h⟩
theorem A8N(T:Tys)(s:St)(t:TypeId):ev T s t (.const .nilFunc)=some (.konst .nilFunc):=nr rfl
theorem A8O(T:Tys)(s:St)(t:TypeId):ev T s t (.const .nilIface)=some (.konst .nilIface):=nr rfl
theorem A8P(T:Tys)(s:St)(t:TypeId):ev T s t (.const (.pointer none))=some (.konst (.pointer none)):=nr rfl
theorem y0T:Y0.T=Ad:=nr rfl
theorem y0L:Y0.lends=lends:=nr rfl
set_option maxRecDepth 10000 in
set_option linter.defProp false in
def A40:=
 A7 @y0T (
 A7 @y0L (
 A7 @vN (
 A7 @ty4 (
 A7 @ty5 (
 A7 @A16 (
 A7 @A1C (
 A7 @iX (
 A7 @A1L (
 A7 @vQ (
 A7 @vR (
 A7 @A1b (
 A7 @A1h (
 A7 @A1n (
 A7 @vS (
 A7 @A1y (
 A7 @A24 (
 A7 @A2A (
 A7 @A2G (
 A7 @A2M (
 A7 @A2S (
 A7 @jr (
 A7 @kE (
 A7 @dn (
 A7 @kQ (
 A7 @kW (
 A7 @kr (
 A7 @l5 (
 A7 @lG (
 A7 @lM (
 A7 @lV (
 A7 @lh (
 A7 @ll (
 A7 @mE (
 A7 @mK (
 A7 @dw (
 A7 @mZ (
 A7 @ma (
 A7 @mr (
 A7 @nH (
 A7 @nN (
 A7 @nT (
 A7 @kn3 (
 A7 @st3 (
 A7 @sz3 (
 A7 @zr3 (
 A7 @kn4 (
 A7 @st4 (
 A7 @sz4 (
 A7 @zr4 (
 A7 @kn5 (
 A7 @st5 (
 A7 @sz5 (
 A7 @zr5 (
 A7 @A17 (
 A7 @A18 (
 A7 @A1B (
 A7 @A19 (
 A7 @A1D (
 A7 @A1E (
 A7 @A1H (
 A7 @A1F (
 A7 @vO (
 A7 @A1I (
 A7 @vP (
 A7 @A1J (
 A7 @A1M (
 A7 @A1N (
 A7 @A1Q (
 A7 @A1O (
 A7 @A1R (
 A7 @A1S (
 A7 @A1V (
 A7 @A1T (
 A7 @A1W (
 A7 @A1X (
 A7 @A1a (
 A7 @A1Y (
 A7 @A1c (
 A7 @A1d (
 A7 @A1g (
 A7 @A1e (
 A7 @A1i (
 A7 @A1j (
 A7 @A1m (
 A7 @A1k (
 A7 @A1o (
 A7 @A1p (
 A7 @A1s (
 A7 @A1q (
 A7 @A1t (
 A7 @A1u (
 A7 @A1x (
 A7 @A1v (
 A7 @A1z (
 A7 @A20 (
 A7 @A23 (
 A7 @A21 (
 A7 @A25 (
 A7 @A26 (
 A7 @A29 (
 A7 @A27 (
 A7 @A2B (
 A7 @A2C (
 A7 @A2F (
 A7 @A2D (
 A7 @A2H (
 A7 @A2I (
 A7 @A2L (
 A7 @A2J (
 A7 @A2N (
 A7 @A2O (
 A7 @A2R (
 A7 @A2P (
 A7 @A2T (
 A7 @A2U (
 A7 @A2X (
 A7 @A2V (
 A7 @jv (
 A7 @jw (
 A7 @kD (
 A7 @jy (
 A7 @kF (
 A7 @kG (
 A7 @kJ (
 A7 @kH (
 A7 @kK (
 A7 @kL (
 A7 @kP (
 A7 @kM (
 A7 @kR (
 A7 @kS (
 A7 @kV (
 A7 @kT (
 A7 @kX (
 A7 @kY (
 A7 @ko (
 A7 @kZ (
 A7 @ku (
 A7 @kv (
 A7 @kz (
 A7 @kw (
 A7 @l6 (
 A7 @l7 (
 A7 @lF (
 A7 @lC (
 A7 @lH (
 A7 @lI (
 A7 @lL (
 A7 @lJ (
 A7 @lN (
 A7 @lQ (
 A7 @lU (
 A7 @lS (
 A7 @lW (
 A7 @lX (
 A7 @lg (
 A7 @lY (
 A7 @lm (
 A7 @lq (
 A7 @mD (
 A7 @lu (
 A7 @mF (
 A7 @mG (
 A7 @mJ (
 A7 @mH (
 A7 @mM (
 A7 @mO (
 A7 @mR (
 A7 @mP (
 A7 @mU (
 A7 @mV (
 A7 @mY (
 A7 @mW (
 A7 @mf (
 A7 @mg (
 A7 @mq (
 A7 @mh (
 A7 @nA (
 A7 @nC (
 A7 @nG (
 A7 @nD (
 A7 @nI (
 A7 @nJ (
 A7 @nM (
 A7 @nK (
 A7 @nO (
 A7 @nP (
 A7 @nS (
 A7 @nQ (
 A7 @nU (
 A7 @nV (
 A7 @nY (
 A7 @nW (
 A7 @A1G (
 A7 @A1P (
 A7 @A1Z (
 A7 @A1l (
 A7 @A1r (
 A7 @A1w (
 A7 @A28 (
 A7 @A2K (
 A7 @kg (
 A7 @lT (
 A7 @mX (
 A7 @mo (
 A7 @dW (
 A7 @dX (
 A7 @dY (
 A7 @dZ (
 A7 @df (
 A7 @dh (
 A7 @dm (
 A7 @zo3 (
 A7 @zo4 (
 A7 @zo5 (
 A7 @A1A (
 A7 @A1K (
 A7 @A1U (
 A7 @A1f (
 A7 @A22 (
 A7 @A2E (
 A7 @A2Q (
 A7 @A2W (
 A7 @kC (
 A7 @kI (
 A7 @kN (
 A7 @kU (
 A7 @ky (
 A7 @lD (
 A7 @lK (
 A7 @lZ (
 A7 @lw (
 A7 @mI (
 A7 @mQ (
 A7 @nE (
 A7 @nL (
 A7 @nR (
 A7 @nX (
 A7 @le3 (
 A7 @le4 (
 A7 @le5 (
 A7 @le6 (
 A7 @le7 (
 A7 @le8 (
 A7 @le9 (
 A7 @A2Y (
 A7 @A2Z (
 A7 @A2a (
 A7 @A2b (
 A7 @A2c (
 A7 @A2d (
 A7 @A2e (
 A7 @A2f (
 A7 @A2g (
 A7 @A2h (
 A7 @A2i (
 A7 @A2j (
 A7 @A2k (
 A7 @A2l (
 A7 @A2m (
 A7 @A2n (
 A7 @A2o (
 A7 @A2p (
 A7 @A2q (
 A7 @A2r (
 A7 @A2s (
 A7 @A2t (
 A7 @A2u (
 A7 @A2v (
 A7 @A2w (
 A7 @A2x (
 A7 @A2y (
 A7 @A2z (
 A7 @A30 (
 A7 @A31 (
 A7 @A32 (
 A7 @A33 (
 A7 @A34 (
 A7 @A35 (
 A7 @A36 (
 A7 @A37 (
 A7 @A38 (
 A7 @A39 (
 A7 @A3A (
 A7 @A3B (
 A7 @A3C (
 A7 @A3D (
 A7 @A3E (
 A7 @A3F (
 A7 @A3G (
 A7 @A3H (
 A7 @A3I (
 A7 @A3J (
 A7 @A3K (
 A7 @A3L (
 A7 @A3M (
 A7 @A3N (
 A7 @A3O (
 A7 @A3P (
 A7 @A3Q (
 A7 @A3R (
 A7 @A3S (
 A7 @A3T (
 A7 @A3U (
 A7 @A3V (
 A7 @A3W (
 A7 @A3X (
 A7 @A3Y (
 A7 @A3Z (
 A7 @A3a (
 A7 @A3b (
 A7 @A3c (
 A7 @A3d (
 A7 @A3e (
 A7 @A3f (
 A7 @A3g (
 A7 @A3h (
 A7 @A3i (
 A7 @A3j (
 A7 @A3k (
 A7 @A3l (
 A7 @A3m (
 A7 @A3n (
 A7 @A3o (
 A7 @A3p (
 A7 @A3q (
 A7 @A3r (
 A7 @A3s (
 A7 @A3t (
 A7 @A3u (
 A7 @A3v (
 A7 @A3w (
 A7 @A3x (
 A7 @A3y (
 A7 @A3z (
 A7 @nZ (
 A7 @ng (
 A7 @ni (
 A7 @nk (
 A7 @nu (
 A7 @ny (
 A7 @nz (
 A7 @oD (
 A7 @oG (
 A7 @oH (
 A7 @oJ (
 A7 @oK (
 A7 @oO (
 A7 @oP (
 A7 @oQ (
 A7 @oU (
 A7 @oV (
 A7 @oW (
 A7 @oZ (
 A7 @og (
 A7 @ol (
 A7 @oo (
 A7 @oq (
 A7 @ou (
 A7 @ow (
 A7 @oz (
 A7 @p8 (
 A7 @p9 (
 A7 @pE (
 A7 @pF (
 A7 @pG (
 A7 @pI (
 A7 @pJ (
 A7 @pK (
 A7 @dz (
 A7 @pM (
 A7 @pO (
 A7 @pQ (
 A7 @pR (
 A7 @pU (
 A7 @pV (
 A7 @pW (
 A7 @pX (
 A7 @pY (
 A7 @pg (
 A7 @pq (
 A7 @pu (
 A7 @pz (
 A7 @qA (
 A7 @qB (
 A7 @qC (
 A7 @qD (
 A7 @qE (
 A7 @qF (
 A7 @qG (
 A7 @qH (
 A7 @qI (
 A7 @qJ (
 A7 @qK (
 A7 @qL (
 A7 @qM (
 A7 @eB (
 A7 @qN (
 A7 @qO (
 A7 @qP (
 A7 @qQ (
 A7 @qR (
 A7 @qU (
 A7 @qV (
 A7 @qW (
 A7 @eD (
 A7 @qX (
 A7 @qY (
 A7 @qZ (
 A7 @qa (
 A7 @qb (
 A7 @qc (
 A7 @qd (
 A7 @qf (
 A7 @qg (
 A7 @qh (
 A7 @qi (
 A7 @qj (
 A7 @ql (
 A7 @qm (
 A7 @qo (
 A7 @qp (
 A7 @qw (
 A7 @qx (
 A7 @qy (
 A7 @qz (
 A7 @rA (
 A7 @rC (
 A7 @rD (
 A7 @rE (
 A7 @rF (
 A7 @rG (
 A7 @rH (
 A7 @rJ (
 A7 @rM (
 A7 @rO (
 A7 @rP (
 A7 @rQ (
 A7 @rR (
 A7 @rT (
 A7 @rU (
 A7 @rV (
 A7 @rW (
 A7 @rX (
 A7 @rY (
 A7 @rZ (
 A7 @rf (
 A7 @rq (
 A7 @ru (
 A7 @ry (@rz)))))))))))))))))))))))))))))))))))))))))))))))))))))))))))))))))))))))))))))))))))))))))))))))))))))))))))))))))))))))))))))))))))))))))))))))))))))))))))))))))))))))))))))))))))))))))))))))))))))))))))))))))))))))))))))))))))))))))))))))))))))))))))))))))))))))))))))))))))))))))))))))))))))))))))))))))))))))))))))))))))))))))))))))))))))))))))))))))))))))))))))))))))))))))))))))))))))))))))))))))))))))))))))))))))))))))))))))))))))))))))))))))))
def eF:SC:= .seq (.ops [oX 2 (.assign (.const (.slice none 0 0))) 26]) (.seq (.seq (.ops [oM 3 0 26,oB 4 .eql 26 (tK 3) (.const (.slice none 0 0)) 26 4]) (.cond (tK 4) (.seq (.ops [oX 2 (.assign (.const (.slice none 0 0))) 26]) .ret) .skip)) (.seq (.ops [oX 5 (.buildSlice 26 0 #[]) 26,oM 6 0 26,oX 7 (.call ⟨(.builtin .append), #[(tK 5),(tK 6)], #[26,26]⟩) 26,oA 2 7 26]) .ret))
theorem YY:Try.f121.body.map (Bw lends)=some eF:=by kernel_rfl
theorem sD:CV Try.f121 1=true:=by kernel_rfl
theorem Xo(A:Option Addr)(c:Nat):Y0.call 121 [.konst (.slice A 0 c)] []=some (.own 3 [],[]):=by
 refine Ag (Y:=Y0) rfl Try.func121 sD YY ?_;show Cb Y0.env eF (GX Ad 0 [ResultVar.tmp 2] _) _
 unfold eF
 cases A<;>simp only [↓AQ,dG,A40,implies_true,EM,JK,Option.isSome_some,↓reduceIte,Nat.reduceEqDiff,Nat.reduceLT,Nat.reduceLeDiff,Nat.reduceAdd,Nat.reduceMul,Nat.reduceMod,Nat.reduceSub,List.contains_cons,List.contains_nil,Nat.reduceBEq,List.getD_cons_zero,List.getD_cons_succ,List.getD_nil,MQ,PS,List.size_toArray,List.toList_toArray,List.zip_cons_cons,List.zip_nil_left,List.append_nil,TM,NT,Ld,List.map_nil,List.replicate_succ,List.replicate_zero,List.set_cons_zero,TL,List.set_set,MS,List.any_cons,List.any_nil,List.all_nil,Lb,NS,List.getElem?_nil,List.range_zero,beq_self_eq_true,Int.reduceLE,Int.reduceLT,Int.reduceEq,Int.reduceSub,Int.reduceAdd,Int.reduceToNat,Int.reduceNeg,Option.isNone_none,Option.isNone_some]
theorem iZ:Dv.Good Try.prog Ad 121 [.sl 3 []] [] (.own 3 []) []:=Xb kn3 (fun A c=>Dv.Sys.call_good A8M (Xo A c))
def eG(f:FuncId)(a l:List D):Option (D×List D):=
 match f,a,l with
 |121,[.sl 3 []],[]=>some (.own 3 [],[])
 |_,_,_=>none
theorem ig: ∀f a l r outs,eG f a l=some (r,outs)→Dv.Good Try.prog Ad f a l r outs:=by
 intro f a l r outs h;unfold eG at h
 split at h
 ·simp only [Option.some.injEq,Prod.mk.injEq]at h;obtain⟨rfl,rfl⟩:=h;exact iZ
 ·cases h
theorem eH: ∀zs:AX,zs.length<4611686018427387904→Dv.Good Try.prog Ad 152 [.vw [100000] 0 0] [.own 3 (Fz zs)] (.tup []) [.own 3 (Fz (GZ zs))]:=fun zs h=>
 Zv ⟨Try.f152,Try.func152,rfl,by decide⟩ sz3 (fun blk off cap zs w h1 h2 h3=>Try.slices_Sort_int blk off cap zs w h1 h2 h3) (fun p cap w=>Try.slices_Sort_int_none p cap w) zs h
theorem Xp: ∀zs:AX,zs.length<1099511627776→Dv.Good Try.prog Ad 115 [.clo 155 [.cptr [.sl 3 (Fz zs)]]] [] (.own 3 (Fz (GZ zs))) []:=fun zs h=>
 W9 ⟨Try.f115,Try.func115,rfl,by decide⟩ sz3
  (fun p ad cap w h1 h2=>callsIn_wide.1 (Go.Proofs.sv.sorted_in 5 (GR _) p _ [] (by decide) (by decide) w h1 h2 (.inl ⟨ad,cap,rfl,rfl⟩)))
  (fun p b off cap zs w h0 h1 h2 h3 h4=>callsIn_wide.1 (Go.Proofs.sv.sorted_in 5 (GR _) p _ zs (by have:maxLen=9223372036854775807:=rfl;omega) (by omega) w h1 h2 (.inr ⟨b,off,cap,rfl,h3,h4⟩))) zs h
theorem WB: ∀n:Nat,n<1099511627776→Dv.Good Try.prog Ad 100 [.konst (.slice none 0 0),.int .i64 n] [] (.own 26 []) []:=fun n h=>
 Xn (ρ:=Try.laysGrow100_ren) iY Try.laysGrow100 ⟨Try.f100,Try.func100,rfl,by decide⟩ vO vP n h
noncomputable def Y:Dv.Sys:={P:=Try.prog,T:=Ad,lends:=lends,base:=MG (Kv 100 26) (MG (MG eG (Kt 152 3)) (Ig 115 155 3))}
theorem yOk:Dv.Sys.Ok Y:=⟨iY,mixed,Ku (Rt WB) (Ku (Ku ig (Rq eH)) (Om Xp))⟩
theorem eO:Ad.ty 900013= .other:=nr rfl
theorem yT:Y.T=Ad:=nr rfl
theorem yL:Y.lends=lends:=nr rfl
set_option maxRecDepth 10000 in
set_option linter.defProp false in
def A41:=
 A7 @eO (
 A7 @yT (
 A7 @yL (
 A7 @A8N (
 A7 @A8O (
 A7 @A8P (
 A7 @vN (
 A7 @ty4 (
 A7 @ty5 (
 A7 @A16 (
 A7 @A1C (
 A7 @iX (
 A7 @A1L (
 A7 @vQ (
 A7 @vR (
 A7 @A1b (
 A7 @A1h (
 A7 @A1n (
 A7 @vS (
 A7 @A1y (
 A7 @A24 (
 A7 @A2A (
 A7 @A2G (
 A7 @A2M (
 A7 @A2S (
 A7 @jr (
 A7 @kE (
 A7 @dn (
 A7 @kQ (
 A7 @kW (
 A7 @kr (
 A7 @l5 (
 A7 @lG (
 A7 @lM (
 A7 @lV (
 A7 @lh (
 A7 @ll (
 A7 @mE (
 A7 @mK (
 A7 @dw (
 A7 @mZ (
 A7 @ma (
 A7 @mr (
 A7 @nH (
 A7 @nN (
 A7 @nT (
 A7 @kn3 (
 A7 @st3 (
 A7 @sz3 (
 A7 @zr3 (
 A7 @kn4 (
 A7 @st4 (
 A7 @sz4 (
 A7 @zr4 (
 A7 @kn5 (
 A7 @st5 (
 A7 @sz5 (
 A7 @zr5 (
 A7 @A17 (
 A7 @A18 (
 A7 @A1B (
 A7 @A19 (
 A7 @A1D (
 A7 @A1E (
 A7 @A1H (
 A7 @A1F (
 A7 @vO (
 A7 @A1I (
 A7 @vP (
 A7 @A1J (
 A7 @A1M (
 A7 @A1N (
 A7 @A1Q (
 A7 @A1O (
 A7 @A1R (
 A7 @A1S (
 A7 @A1V (
 A7 @A1T (
 A7 @A1W (
 A7 @A1X (
 A7 @A1a (
 A7 @A1Y (
 A7 @A1c (
 A7 @A1d (
 A7 @A1g (
 A7 @A1e (
 A7 @A1i (
 A7 @A1j (
 A7 @A1m (
 A7 @A1k (
 A7 @A1o (
 A7 @A1p (
 A7 @A1s (
 A7 @A1q (
 A7 @A1t (
 A7 @A1u (
 A7 @A1x (
 A7 @A1v (
 A7 @A1z (
 A7 @A20 (
 A7 @A23 (
 A7 @A21 (
 A7 @A25 (
 A7 @A26 (
 A7 @A29 (
 A7 @A27 (
 A7 @A2B (
 A7 @A2C (
 A7 @A2F (
 A7 @A2D (
 A7 @A2H (
 A7 @A2I (
 A7 @A2L (
 A7 @A2J (
 A7 @A2N (
 A7 @A2O (
 A7 @A2R (
 A7 @A2P (
 A7 @A2T (
 A7 @A2U (
 A7 @A2X (
 A7 @A2V (
 A7 @jv (
 A7 @jw (
 A7 @kD (
 A7 @jy (
 A7 @kF (
 A7 @kG (
 A7 @kJ (
 A7 @kH (
 A7 @kK (
 A7 @kL (
 A7 @kP (
 A7 @kM (
 A7 @kR (
 A7 @kS (
 A7 @kV (
 A7 @kT (
 A7 @kX (
 A7 @kY (
 A7 @ko (
 A7 @kZ (
 A7 @ku (
 A7 @kv (
 A7 @kz (
 A7 @kw (
 A7 @l6 (
 A7 @l7 (
 A7 @lF (
 A7 @lC (
 A7 @lH (
 A7 @lI (
 A7 @lL (
 A7 @lJ (
 A7 @lN (
 A7 @lQ (
 A7 @lU (
 A7 @lS (
 A7 @lW (
 A7 @lX (
 A7 @lg (
 A7 @lY (
 A7 @lm (
 A7 @lq (
 A7 @mD (
 A7 @lu (
 A7 @mF (
 A7 @mG (
 A7 @mJ (
 A7 @mH (
 A7 @mM (
 A7 @mO (
 A7 @mR (
 A7 @mP (
 A7 @mU (
 A7 @mV (
 A7 @mY (
 A7 @mW (
 A7 @mf (
 A7 @mg (
 A7 @mq (
 A7 @mh (
 A7 @nA (
 A7 @nC (
 A7 @nG (
 A7 @nD (
 A7 @nI (
 A7 @nJ (
 A7 @nM (
 A7 @nK (
 A7 @nO (
 A7 @nP (
 A7 @nS (
 A7 @nQ (
 A7 @nU (
 A7 @nV (
 A7 @nY (
 A7 @nW (
 A7 @A1G (
 A7 @A1P (
 A7 @A1Z (
 A7 @A1l (
 A7 @A1r (
 A7 @A1w (
 A7 @A28 (
 A7 @A2K (
 A7 @kg (
 A7 @lT (
 A7 @mX (
 A7 @mo (
 A7 @dW (
 A7 @dX (
 A7 @dY (
 A7 @dZ (
 A7 @df (
 A7 @dh (
 A7 @dm (
 A7 @zo3 (
 A7 @zo4 (
 A7 @zo5 (
 A7 @A1A (
 A7 @A1K (
 A7 @A1U (
 A7 @A1f (
 A7 @A22 (
 A7 @A2E (
 A7 @A2Q (
 A7 @A2W (
 A7 @kC (
 A7 @kI (
 A7 @kN (
 A7 @kU (
 A7 @ky (
 A7 @lD (
 A7 @lK (
 A7 @lZ (
 A7 @lw (
 A7 @mI (
 A7 @mQ (
 A7 @nE (
 A7 @nL (
 A7 @nR (
 A7 @nX (
 A7 @le3 (
 A7 @le4 (
 A7 @le5 (
 A7 @le6 (
 A7 @le7 (
 A7 @le8 (
 A7 @le9 (
 A7 @A2Y (
 A7 @A2Z (
 A7 @A2a (
 A7 @A2b (
 A7 @A2c (
 A7 @A2d (
 A7 @A2e (
 A7 @A2f (
 A7 @A2g (
 A7 @A2h (
 A7 @A2i (
 A7 @A2j (
 A7 @A2k (
 A7 @A2l (
 A7 @A2m (
 A7 @A2n (
 A7 @A2o (
 A7 @A2p (
 A7 @A2q (
 A7 @A2r (
 A7 @A2s (
 A7 @A2t (
 A7 @A2u (
 A7 @A2v (
 A7 @A2w (
 A7 @A2x (
 A7 @A2y (
 A7 @A2z (
 A7 @A30 (
 A7 @A31 (
 A7 @A32 (
 A7 @A33 (
 A7 @A34 (
 A7 @A35 (
 A7 @A36 (
 A7 @A37 (
 A7 @A38 (
 A7 @A39 (
 A7 @A3A (
 A7 @A3B (
 A7 @A3C (
 A7 @A3D (
 A7 @A3E (
 A7 @A3F (
 A7 @A3G (
 A7 @A3H (
 A7 @A3I (
 A7 @A3J (
 A7 @A3K (
 A7 @A3L (
 A7 @A3M (
 A7 @A3N (
 A7 @A3O (
 A7 @A3P (
 A7 @A3Q (
 A7 @A3R (
 A7 @A3S (
 A7 @A3T (
 A7 @A3U (
 A7 @A3V (
 A7 @A3W (
 A7 @A3X (
 A7 @A3Y (
 A7 @A3Z (
 A7 @A3a (
 A7 @A3b (
 A7 @A3c (
 A7 @A3d (
 A7 @A3e (
 A7 @A3f (
 A7 @A3g (
 A7 @A3h (
 A7 @A3i (
 A7 @A3j (
 A7 @A3k (
 A7 @A3l (
 A7 @A3m (
 A7 @A3n (
 A7 @A3o (
 A7 @A3p (
 A7 @A3q (
 A7 @A3r (
 A7 @A3s (
 A7 @A3t (
 A7 @A3u (
 A7 @A3v (
 A7 @A3w (
 A7 @A3x (
 A7 @A3y (
 A7 @A3z (
 A7 @nZ (
 A7 @ng (
 A7 @ni (
 A7 @nk (
 A7 @nu (
 A7 @ny (
 A7 @nz (
 A7 @oD (
 A7 @oG (
 A7 @oH (
 A7 @oJ (
 A7 @oK (
 A7 @oO (
 A7 @oP (
 A7 @oQ (
 A7 @oU (
 A7 @oV (
 A7 @oW (
 A7 @oZ (
 A7 @og (
 A7 @ol (
 A7 @oo (
 A7 @oq (
 A7 @ou (
 A7 @ow (
 A7 @oz (
 A7 @p8 (
 A7 @p9 (
 A7 @pE (
 A7 @pF (
 A7 @pG (
 A7 @pI (
 A7 @pJ (
 A7 @pK (
 A7 @dz (
 A7 @pM (
 A7 @pO (
 A7 @pQ (
 A7 @pR (
 A7 @pU (
 A7 @pV (
 A7 @pW (
 A7 @pX (
 A7 @pY (
 A7 @pg (
 A7 @pq (
 A7 @pu (
 A7 @pz (
 A7 @qA (
 A7 @qB (
 A7 @qC (
 A7 @qD (
 A7 @qE (
 A7 @qF (
 A7 @qG (
 A7 @qH (
 A7 @qI (
 A7 @qJ (
 A7 @qK (
 A7 @qL (
 A7 @qM (
 A7 @eB (
 A7 @qN (
 A7 @qO (
 A7 @qP (
 A7 @qQ (
 A7 @qR (
 A7 @qU (
 A7 @qV (
 A7 @qW (
 A7 @eD (
 A7 @qX (
 A7 @qY (
 A7 @qZ (
 A7 @qa (
 A7 @qb (
 A7 @qc (
 A7 @qd (
 A7 @qf (
 A7 @qg (
 A7 @qh (
 A7 @qi (
 A7 @qj (
 A7 @ql (
 A7 @qm (
 A7 @qo (
 A7 @qp (
 A7 @qw (
 A7 @qx (
 A7 @qy (
 A7 @qz (
 A7 @rA (
 A7 @rC (
 A7 @rD (
 A7 @rE (
 A7 @rF (
 A7 @rG (
 A7 @rH (
 A7 @rJ (
 A7 @rM (
 A7 @rO (
 A7 @rP (
 A7 @rQ (
 A7 @rR (
 A7 @rT (
 A7 @rU (
 A7 @rV (
 A7 @rW (
 A7 @rX (
 A7 @rY (
 A7 @rZ (
 A7 @rf (
 A7 @rq (
 A7 @ru (
 A7 @ry (@rz)))))))))))))))))))))))))))))))))))))))))))))))))))))))))))))))))))))))))))))))))))))))))))))))))))))))))))))))))))))))))))))))))))))))))))))))))))))))))))))))))))))))))))))))))))))))))))))))))))))))))))))))))))))))))))))))))))))))))))))))))))))))))))))))))))))))))))))))))))))))))))))))))))))))))))))))))))))))))))))))))))))))))))))))))))))))))))))))))))))))))))))))))))))))))))))))))))))))))))))))))))))))))))))))))))))))))))))))))))))))))))))))))))))))
theorem A42(n:Int)(h:0≤n∧n<1099511627776):Y.call 100 [.konst (.slice none 0 0),.int .i64 n] []=some (.own 26 [],[]):=Dv.Sys.call_base (OV<|WA 100 26 n h)
theorem vT(zs:AX)(h:zs.length<1099511627776):Y.call 115 [.clo 155 [.cptr [.sl 3 (AV (D.int .i64) zs)]]] []=some (.own 3 (AV (D.int .i64) (GZ zs)),[]):=Dv.Sys.call_base ((Rs 115 155 3 zs h))
theorem eP(zs:AX)(h:zs.length<4611686018427387904):Y.call 152 [.vw [100000] 0 0] [.own 3 (AV (D.int .i64) zs)]=some (.tup [],[.own 3 (AV (D.int .i64) (GZ zs))]):=Dv.Sys.call_base (OV<|(Vz 152 3 zs h))
theorem Zy(xs:List D)(h:xs.length<1099511627776)(hs:xs.all Cn=true)(ho:Am xs=false)(hf:(DL (.own 3 xs)).isSome=true):Y.call 121 [.sl 3 xs] []=some (.own 3 xs,[]):=by
 cases xs with
 |nil=>exact Dv.Sys.call_base rfl
 |cons x xs=>
  refine Ag (Y:=Y) rfl Try.func121 sD YY ?_;show Cb Y.env eF (GX Ad 0 [ResultVar.tmp 2] _) _
  unfold eF;have h0:0+(x::xs).length<1099511627776:=by omega
  simp only [MQ,Gx]at h0;simp only [MS,YQ]at hs ho;simp only [↓AQ,dG,A41,implies_true,EM,JK,Option.isSome_some,↓reduceIte,Nat.reduceEqDiff,Nat.reduceLT,Nat.reduceLeDiff,Nat.reduceAdd,Nat.reduceMul,Nat.reduceMod,Nat.reduceSub,List.contains_cons,List.contains_nil,Nat.reduceBEq,List.getD_cons_zero,List.getD_cons_succ,List.getD_nil,MQ,PS,List.size_toArray,List.toList_toArray,List.zip_cons_cons,List.zip_nil_left,List.append_nil,TM,NT,Ld,List.map_nil,List.replicate_succ,List.replicate_zero,List.set_cons_zero,TL,List.set_set,MS,List.any_cons,List.any_nil,List.all_nil,Lb,NS,List.getElem?_nil,List.range_zero,beq_self_eq_true,Int.reduceLE,Int.reduceLT,Int.reduceEq,Int.reduceSub,Int.reduceAdd,Int.reduceToNat,Int.reduceNeg,Gx,h0,hs,ho];simp only [jo,YR]at hf;rw [if_pos hf]
set_option linter.defProp false in
def AR:=A7 dG (A7 A8K (A7 xc2 (A7 A15 A41)))
abbrev BU:Op:= .assign (.const (.bool false))
abbrev Dz:Operand:= .const (.bool true)
abbrev N7:Op:= .assign (.const (.int .i64 (-1)))
abbrev MI:Operand:= .const (.bool false)
abbrev WC:Op:= .fieldAddr 57 (tK 3) 3
abbrev eQ:Op:= .assign (.const (.slice none 0 0))
abbrev Xq:Op:= .fieldAddr 47 (tK 1) 0
end Go.Proofs.Ytclkfhhdikfcpaa
