/- The types of this seat as data, and the system of its calls. Conditions: none. -/
import Derived.Test.YtjhjkfoabhplfaaGreatRows
import Derived.Test.YtjhjkfoabhplfaaGreatL6
import Derived.Test.YtjhjkfoabhplfaaGreatSv
import Derived.Test.YtjhjkfoabhplfaaGreatSf
import Derived.Test.YtjhjkfoabhplfaaGreatCf
import Derived.Test.YtjhjkfoabhplfaaGreatSh
import Derived.KernelRfl
namespace Go.Proofs.YtjhjkfoabhplfaaGreat
open Go Dv
set_option linter.unusedSimpArgs false
set_option maxRecDepth 100000
def zI:List Ty:=[.other,.func,.int .i64,.int .i64,.bool,.int .u8,.int .u8,.struct [2,3,4,6],.struct [2,3,4,6],.string,.string,.string,.int .u64,.struct [9,12],.struct [9,12],.ptr,.ptr,.ptr,.struct [17],.struct [17],.other,.int .i32,.slice 27,.struct [3,3,22,22],.struct [3,3,22,22],.func,.struct [3,3,22,22],.slice 3,.other,.func,.func,.func,.func,.func,.func,.func,.other,.func,.func,.func,.func,.func,.func,.func,.func,.func,.other,.func,.func,.other,.func,.func,.func,.slice 4,.struct [3,3,22,22,53],.struct [3,3,22,22,53],.func,.func,.ptr,.func,.func,.func,.func,.func,.func,.func,.func,.func,.func,.func,.func,.func,.other,.func,.func,.func,.func,.func,.struct [3,3,22,22,27],.struct [3,3,22,22,27],.func,.func,.func,.func,.func,.func,.func,.func,.func,.func,.func,.int .u64,.func,.func,.func,.func,.func,.func,.func,.func,.int .i64,.other,.func,.func,.func,.func,.int .u32,.func,.int .u64,.func,.func,.func,.func,.func,.func,.int .u64,.func,.func,.func,.ptr,.func,.func,.func,.func,.func,.func,.ptr,.other,.func,.func,.func,.func,.func,.func,.struct [17,17,17,9],.struct [17,17,17,9],.other,.other,.other,.func,.int .u8,.int .u8,.func,.ptr,.int .i32,.int .i32,.struct [12,12,106,140,5,5,141,142,143,144,145],.struct [12,12,106,140,5,5,141,142,143,144,145]]
def nst:List (TypeId×List (Nat×TypeId)):=[(54,[(0,26),(4,53)]),(55,[(0,26),(4,53)]),(78,[(0,26),(4,27)]),(79,[(0,26),(4,27)])]
def AX:Tys:=rM zI nst
def lends(f:FuncId):Bool:=[12,13,27,68,69,71,72,102,103,110].contains f
theorem ty1:AX.ty 1= .func:=nr rfl
theorem ty2:AX.ty 2= .int .i64:=nr rfl
theorem ty3:AX.ty 3= .int .i64:=nr rfl
theorem kn3:AX.known 3=true:=nr rfl
theorem st3:AX.isStruct 3=false:=nr rfl
theorem zr3:AX.zeros 3=[.int .i64 0]:=nr rfl
theorem zo3:AX.zero1 3= .int .i64 0:=nr rfl
theorem sz3:AX.size 3=1:=nr rfl
theorem ty4:AX.ty 4= .bool:=nr rfl
theorem kn4:AX.known 4=true:=nr rfl
theorem st4:AX.isStruct 4=false:=nr rfl
theorem zr4:AX.zeros 4=[.bool false]:=nr rfl
theorem zo4:AX.zero1 4= .bool false:=nr rfl
theorem sz4:AX.size 4=1:=nr rfl
theorem ty5:AX.ty 5= .int .u8:=nr rfl
theorem kn5:AX.known 5=true:=nr rfl
theorem st5:AX.isStruct 5=false:=nr rfl
theorem zr5:AX.zeros 5=[.int .u8 0]:=nr rfl
theorem zo5:AX.zero1 5= .int .u8 0:=nr rfl
theorem sz5:AX.size 5=1:=nr rfl
theorem ty6:AX.ty 6= .int .u8:=nr rfl
theorem ty7:AX.ty 7= .struct [2,3,4,6]:=nr rfl
theorem ty8:AX.ty 8= .struct [2,3,4,6]:=nr rfl
theorem ty9:AX.ty 9= .string:=nr rfl
theorem AM2:AX.ty 10= .string:=nr rfl
theorem AM3:AX.ty 11= .string:=nr rfl
theorem AM4:AX.ty 12= .int .u64:=nr rfl
theorem AM5:AX.ty 13= .struct [9,12]:=nr rfl
theorem AM6:AX.ty 14= .struct [9,12]:=nr rfl
theorem AM7:AX.ty 15= .ptr:=nr rfl
theorem AM8:AX.ty 16= .ptr:=nr rfl
theorem AM9:AX.ty 17= .ptr:=nr rfl
theorem AMA:AX.ty 18= .struct [17]:=nr rfl
theorem AMB:AX.ty 19= .struct [17]:=nr rfl
theorem AMC:AX.ty 21= .int .i32:=nr rfl
theorem A4X:AX.ty 22= .slice 27:=nr rfl
theorem A9U:AX.known 22=true:=nr rfl
theorem A9V:AX.isStruct 22=false:=nr rfl
theorem A9W:AX.zeros 22=[.own 27 []]:=nr rfl
theorem A9X:AX.zero1 22= .own 27 []:=nr rfl
theorem A9Y:AX.size 22=1:=nr rfl
theorem AMD:AX.ty 23= .struct [3,3,22,22]:=nr rfl
theorem A4Y:AX.ty 24= .struct [3,3,22,22]:=nr rfl
theorem A9Z:AX.known 24=true:=nr rfl
theorem A9a:AX.isStruct 24=true:=nr rfl
theorem A9b:AX.zeros 24=[.int .i64 0,.int .i64 0,.own 27 [],.own 27 []]:=nr rfl
theorem A9c:AX.nest 24=none:=nr rfl
theorem A9d:AX.size 24=4:=nr rfl
theorem AME:AX.ty 25= .func:=nr rfl
theorem A9e:AX.ty 26= .struct [3,3,22,22]:=nr rfl
theorem A9f:AX.known 26=true:=nr rfl
theorem A9g:AX.isStruct 26=true:=nr rfl
theorem A9h:AX.zeros 26=[.int .i64 0,.int .i64 0,.own 27 [],.own 27 []]:=nr rfl
theorem A9i:AX.nest 26=none:=nr rfl
theorem A9j:AX.size 26=4:=nr rfl
theorem A4Z:AX.ty 27= .slice 3:=nr rfl
theorem A9k:AX.known 27=true:=nr rfl
theorem A9l:AX.isStruct 27=false:=nr rfl
theorem A9m:AX.zeros 27=[.own 3 []]:=nr rfl
theorem A9n:AX.zero1 27= .own 3 []:=nr rfl
theorem A0J:AX.size 27=1:=nr rfl
theorem AMF:AX.ty 29= .func:=nr rfl
theorem AMG:AX.ty 30= .func:=nr rfl
theorem AMH:AX.ty 31= .func:=nr rfl
theorem A9o:AX.ty 32= .func:=nr rfl
theorem A9p:AX.known 32=true:=nr rfl
theorem A9q:AX.isStruct 32=false:=nr rfl
theorem A9r:AX.zeros 32=[.konst .nilFunc]:=nr rfl
theorem A9s:AX.zero1 32= .konst .nilFunc:=nr rfl
theorem A9t:AX.size 32=1:=nr rfl
theorem AMI:AX.ty 33= .func:=nr rfl
theorem AMJ:AX.ty 34= .func:=nr rfl
theorem AMK:AX.ty 35= .func:=nr rfl
theorem AML:AX.ty 37= .func:=nr rfl
theorem AMM:AX.ty 38= .func:=nr rfl
theorem AMN:AX.ty 39= .func:=nr rfl
theorem AMO:AX.ty 40= .func:=nr rfl
theorem AMP:AX.ty 41= .func:=nr rfl
theorem AMQ:AX.ty 42= .func:=nr rfl
theorem AMR:AX.ty 43= .func:=nr rfl
theorem AMS:AX.ty 44= .func:=nr rfl
theorem AMT:AX.ty 45= .func:=nr rfl
theorem AMU:AX.ty 47= .func:=nr rfl
theorem AMV:AX.ty 48= .func:=nr rfl
theorem AMW:AX.ty 50= .func:=nr rfl
theorem AMX:AX.ty 51= .func:=nr rfl
theorem A9u:AX.ty 52= .func:=nr rfl
theorem A9v:AX.known 52=true:=nr rfl
theorem A9w:AX.isStruct 52=false:=nr rfl
theorem A9x:AX.zeros 52=[.konst .nilFunc]:=nr rfl
theorem A9y:AX.zero1 52= .konst .nilFunc:=nr rfl
theorem A9z:AX.size 52=1:=nr rfl
theorem AA0:AX.ty 53= .slice 4:=nr rfl
theorem AA1:AX.known 53=true:=nr rfl
theorem AA2:AX.isStruct 53=false:=nr rfl
theorem AA3:AX.zeros 53=[.own 4 []]:=nr rfl
theorem AA4:AX.zero1 53= .own 4 []:=nr rfl
theorem AA5:AX.size 53=1:=nr rfl
theorem AMY:AX.ty 54= .struct [3,3,22,22,53]:=nr rfl
theorem AA6:AX.ty 55= .struct [3,3,22,22,53]:=nr rfl
theorem AA7:AX.known 55=true:=nr rfl
theorem AA8:AX.isStruct 55=true:=nr rfl
theorem AA9:AX.zeros 55=[.int .i64 0,.int .i64 0,.own 27 [],.own 27 [],.own 4 []]:=nr rfl
theorem AAA:AX.nest 55=some [(0,26),(4,53)]:=nr rfl
theorem wV:AX.foff 55 0=some 0:=nr rfl
theorem wW:AX.foff 55 1=some 4:=nr rfl
theorem AAB:AX.size 55=5:=nr rfl
theorem AMZ:AX.ty 56= .func:=nr rfl
theorem AMa:AX.ty 57= .func:=nr rfl
theorem AAC:AX.ty 58= .ptr:=nr rfl
theorem AAD:AX.known 58=true:=nr rfl
theorem AAE:AX.isStruct 58=false:=nr rfl
theorem AAF:AX.zeros 58=[.konst (.pointer none)]:=nr rfl
theorem AAG:AX.zero1 58= .konst (.pointer none):=nr rfl
theorem AAH:AX.size 58=1:=nr rfl
theorem AMb:AX.ty 59= .func:=nr rfl
theorem AMc:AX.ty 60= .func:=nr rfl
theorem AMd:AX.ty 61= .func:=nr rfl
theorem AAI:AX.ty 62= .func:=nr rfl
theorem AAJ:AX.known 62=true:=nr rfl
theorem AAK:AX.isStruct 62=false:=nr rfl
theorem AAL:AX.zeros 62=[.konst .nilFunc]:=nr rfl
theorem AAM:AX.zero1 62= .konst .nilFunc:=nr rfl
theorem AAN:AX.size 62=1:=nr rfl
theorem AMe:AX.ty 63= .func:=nr rfl
theorem AMf:AX.ty 64= .func:=nr rfl
theorem AMg:AX.ty 65= .func:=nr rfl
theorem AMh:AX.ty 66= .func:=nr rfl
theorem AMi:AX.ty 67= .func:=nr rfl
theorem AMj:AX.ty 68= .func:=nr rfl
theorem AMk:AX.ty 69= .func:=nr rfl
theorem AMl:AX.ty 70= .func:=nr rfl
theorem AMm:AX.ty 71= .func:=nr rfl
theorem AMn:AX.ty 73= .func:=nr rfl
theorem AMo:AX.ty 74= .func:=nr rfl
theorem AMp:AX.ty 75= .func:=nr rfl
theorem AMq:AX.ty 76= .func:=nr rfl
theorem AMr:AX.ty 77= .func:=nr rfl
theorem AMs:AX.ty 78= .struct [3,3,22,22,27]:=nr rfl
theorem AAO:AX.ty 79= .struct [3,3,22,22,27]:=nr rfl
theorem AAP:AX.known 79=true:=nr rfl
theorem AAQ:AX.isStruct 79=true:=nr rfl
theorem AAR:AX.zeros 79=[.int .i64 0,.int .i64 0,.own 27 [],.own 27 [],.own 3 []]:=nr rfl
theorem AAS:AX.nest 79=some [(0,26),(4,27)]:=nr rfl
theorem wX:AX.foff 79 0=some 0:=nr rfl
theorem wY:AX.foff 79 1=some 4:=nr rfl
theorem AAT:AX.size 79=5:=nr rfl
theorem AMt:AX.ty 80= .func:=nr rfl
theorem AMu:AX.ty 81= .func:=nr rfl
theorem AMv:AX.ty 82= .func:=nr rfl
theorem AMw:AX.ty 83= .func:=nr rfl
theorem AMx:AX.ty 84= .func:=nr rfl
theorem AMy:AX.ty 85= .func:=nr rfl
theorem AMz:AX.ty 86= .func:=nr rfl
theorem AAU:AX.ty 87= .func:=nr rfl
theorem AAV:AX.known 87=true:=nr rfl
theorem AAW:AX.isStruct 87=false:=nr rfl
theorem AAX:AX.zeros 87=[.konst .nilFunc]:=nr rfl
theorem AAY:AX.zero1 87= .konst .nilFunc:=nr rfl
theorem AAZ:AX.size 87=1:=nr rfl
theorem AN0:AX.ty 88= .func:=nr rfl
theorem AN1:AX.ty 89= .func:=nr rfl
theorem AN2:AX.ty 90= .func:=nr rfl
theorem AAa:AX.ty 91= .int .u64:=nr rfl
theorem AAb:AX.known 91=true:=nr rfl
theorem AAc:AX.isStruct 91=false:=nr rfl
theorem AAd:AX.zeros 91=[.int .u64 0]:=nr rfl
theorem AAe:AX.zero1 91= .int .u64 0:=nr rfl
theorem AAf:AX.size 91=1:=nr rfl
theorem AN3:AX.ty 92= .func:=nr rfl
theorem AN4:AX.ty 93= .func:=nr rfl
theorem AN5:AX.ty 94= .func:=nr rfl
theorem AN6:AX.ty 95= .func:=nr rfl
theorem AAg:AX.ty 96= .func:=nr rfl
theorem AAh:AX.known 96=true:=nr rfl
theorem AAi:AX.isStruct 96=false:=nr rfl
theorem AAj:AX.zeros 96=[.konst .nilFunc]:=nr rfl
theorem AAk:AX.zero1 96= .konst .nilFunc:=nr rfl
theorem AAl:AX.size 96=1:=nr rfl
theorem AN7:AX.ty 97= .func:=nr rfl
theorem AN8:AX.ty 98= .func:=nr rfl
theorem AN9:AX.ty 99= .func:=nr rfl
theorem A16:AX.ty 100= .int .i64:=nr rfl
theorem A17:AX.known 100=true:=nr rfl
theorem A18:AX.isStruct 100=false:=nr rfl
theorem A19:AX.zeros 100=[.int .i64 0]:=nr rfl
theorem A1A:AX.zero1 100= .int .i64 0:=nr rfl
theorem A1B:AX.size 100=1:=nr rfl
theorem AJl:AX.ty 102= .func:=nr rfl
theorem AJm:AX.ty 103= .func:=nr rfl
theorem AJn:AX.ty 104= .func:=nr rfl
theorem AJo:AX.ty 105= .func:=nr rfl
theorem A1C:AX.ty 106= .int .u32:=nr rfl
theorem A1D:AX.known 106=true:=nr rfl
theorem A1E:AX.isStruct 106=false:=nr rfl
theorem A1F:AX.zeros 106=[.int .u32 0]:=nr rfl
theorem A1G:AX.zero1 106= .int .u32 0:=nr rfl
theorem A1H:AX.size 106=1:=nr rfl
theorem AJp:AX.ty 107= .func:=nr rfl
theorem A1I:AX.ty 108= .int .u64:=nr rfl
theorem A1J:AX.known 108=true:=nr rfl
theorem A1K:AX.isStruct 108=false:=nr rfl
theorem A1L:AX.zeros 108=[.int .u64 0]:=nr rfl
theorem A1M:AX.zero1 108= .int .u64 0:=nr rfl
theorem A1N:AX.size 108=1:=nr rfl
theorem AJq:AX.ty 109= .func:=nr rfl
theorem AJr:AX.ty 110= .func:=nr rfl
theorem AJs:AX.ty 111= .func:=nr rfl
theorem A1O:AX.ty 112= .func:=nr rfl
theorem A1P:AX.known 112=true:=nr rfl
theorem A1Q:AX.isStruct 112=false:=nr rfl
theorem A1R:AX.zeros 112=[.konst .nilFunc]:=nr rfl
theorem A1S:AX.zero1 112= .konst .nilFunc:=nr rfl
theorem A1T:AX.size 112=1:=nr rfl
theorem A1U:AX.ty 113= .func:=nr rfl
theorem A1V:AX.known 113=true:=nr rfl
theorem A1W:AX.isStruct 113=false:=nr rfl
theorem A1X:AX.zeros 113=[.konst .nilFunc]:=nr rfl
theorem A1Y:AX.zero1 113= .konst .nilFunc:=nr rfl
theorem A1Z:AX.size 113=1:=nr rfl
theorem AJt:AX.ty 114= .func:=nr rfl
theorem A1a:AX.ty 115= .int .u64:=nr rfl
theorem A1b:AX.known 115=true:=nr rfl
theorem A1c:AX.isStruct 115=false:=nr rfl
theorem A1d:AX.zeros 115=[.int .u64 0]:=nr rfl
theorem A1e:AX.zero1 115= .int .u64 0:=nr rfl
theorem A1f:AX.size 115=1:=nr rfl
theorem AJu:AX.ty 116= .func:=nr rfl
theorem AJv:AX.ty 117= .func:=nr rfl
theorem AJw:AX.ty 118= .func:=nr rfl
theorem A1g:AX.ty 119= .ptr:=nr rfl
theorem A1h:AX.known 119=true:=nr rfl
theorem A1i:AX.isStruct 119=false:=nr rfl
theorem A1j:AX.zeros 119=[.konst (.pointer none)]:=nr rfl
theorem A1k:AX.zero1 119= .konst (.pointer none):=nr rfl
theorem A1l:AX.size 119=1:=nr rfl
theorem AJx:AX.ty 120= .func:=nr rfl
theorem AJy:AX.ty 121= .func:=nr rfl
theorem AJz:AX.ty 122= .func:=nr rfl
theorem AK0:AX.ty 123= .func:=nr rfl
theorem AK1:AX.ty 124= .func:=nr rfl
theorem AK2:AX.ty 125= .func:=nr rfl
theorem AK3:AX.ty 126= .ptr:=nr rfl
theorem AK4:AX.ty 128= .func:=nr rfl
theorem AK5:AX.ty 129= .func:=nr rfl
theorem AK6:AX.ty 130= .func:=nr rfl
theorem AK7:AX.ty 131= .func:=nr rfl
theorem AK8:AX.ty 132= .func:=nr rfl
theorem AK9:AX.ty 133= .func:=nr rfl
theorem AKA:AX.ty 134= .struct [17,17,17,9]:=nr rfl
theorem AKB:AX.ty 135= .struct [17,17,17,9]:=nr rfl
theorem AKC:AX.ty 139= .func:=nr rfl
theorem AKD:AX.ty 140= .int .u8:=nr rfl
theorem AKE:AX.ty 141= .int .u8:=nr rfl
theorem AKF:AX.ty 142= .func:=nr rfl
theorem AKG:AX.ty 143= .ptr:=nr rfl
theorem AKH:AX.ty 144= .int .i32:=nr rfl
theorem AKI:AX.ty 145= .int .i32:=nr rfl
theorem AKJ:AX.ty 146= .struct [12,12,106,140,5,5,141,142,143,144,145]:=nr rfl
theorem AKK:AX.ty 147= .struct [12,12,106,140,5,5,141,142,143,144,145]:=nr rfl
theorem le3:lends 3=false:=nr rfl
theorem le4:lends 4=false:=nr rfl
theorem le5:lends 5=false:=nr rfl
theorem le6:lends 6=false:=nr rfl
theorem le7:lends 7=false:=nr rfl
theorem le8:lends 8=false:=nr rfl
theorem le9:lends 9=false:=nr rfl
theorem AAm:lends 10=false:=nr rfl
theorem AAn:lends 11=false:=nr rfl
theorem AAo:lends 12=true:=nr rfl
theorem AAp:lends 13=true:=nr rfl
theorem AAq:lends 14=false:=nr rfl
theorem AAr:lends 15=false:=nr rfl
theorem AAs:lends 16=false:=nr rfl
theorem AAt:lends 17=false:=nr rfl
theorem AAu:lends 18=false:=nr rfl
theorem AAv:lends 19=false:=nr rfl
theorem AAw:lends 20=false:=nr rfl
theorem AAx:lends 21=false:=nr rfl
theorem AAy:lends 22=false:=nr rfl
theorem AAz:lends 23=false:=nr rfl
theorem AB0:lends 24=false:=nr rfl
theorem AB1:lends 25=false:=nr rfl
theorem AB2:lends 26=false:=nr rfl
theorem AB3:lends 27=true:=nr rfl
theorem AB4:lends 28=false:=nr rfl
theorem AB5:lends 29=false:=nr rfl
theorem AB6:lends 30=false:=nr rfl
theorem AB7:lends 31=false:=nr rfl
theorem AB8:lends 32=false:=nr rfl
theorem AB9:lends 33=false:=nr rfl
theorem ABA:lends 34=false:=nr rfl
theorem ABB:lends 35=false:=nr rfl
theorem ABC:lends 36=false:=nr rfl
theorem ABD:lends 37=false:=nr rfl
theorem ABE:lends 38=false:=nr rfl
theorem ABF:lends 39=false:=nr rfl
theorem ABG:lends 40=false:=nr rfl
theorem ABH:lends 41=false:=nr rfl
theorem ABJ:lends 42=false:=nr rfl
theorem ABK:lends 43=false:=nr rfl
theorem ABL:lends 44=false:=nr rfl
theorem ABM:lends 45=false:=nr rfl
theorem ABN:lends 46=false:=nr rfl
theorem ABO:lends 47=false:=nr rfl
theorem ABP:lends 48=false:=nr rfl
theorem ABQ:lends 49=false:=nr rfl
theorem ABR:lends 50=false:=nr rfl
theorem ABS:lends 51=false:=nr rfl
theorem A0K:lends 52=false:=nr rfl
theorem ABT:lends 53=false:=nr rfl
theorem ABU:lends 54=false:=nr rfl
theorem ABV:lends 55=false:=nr rfl
theorem ABW:lends 56=false:=nr rfl
theorem ABX:lends 57=false:=nr rfl
theorem ABY:lends 58=false:=nr rfl
theorem ABZ:lends 59=false:=nr rfl
theorem ABa:lends 60=false:=nr rfl
theorem ABb:lends 61=false:=nr rfl
theorem ABc:lends 62=false:=nr rfl
theorem ABd:lends 63=false:=nr rfl
theorem A4a:lends 64=false:=nr rfl
theorem ABe:lends 65=false:=nr rfl
theorem ABf:lends 66=false:=nr rfl
theorem ABg:lends 67=false:=nr rfl
theorem ABh:lends 68=true:=nr rfl
theorem ABi:lends 69=true:=nr rfl
theorem ABj:lends 70=false:=nr rfl
theorem ABk:lends 71=true:=nr rfl
theorem ABl:lends 72=true:=nr rfl
theorem ABm:lends 73=false:=nr rfl
theorem A4b:lends 74=false:=nr rfl
theorem ABn:lends 75=false:=nr rfl
theorem ABo:lends 76=false:=nr rfl
theorem ABp:lends 77=false:=nr rfl
theorem ABq:lends 78=false:=nr rfl
theorem ABr:lends 79=false:=nr rfl
theorem ABs:lends 80=false:=nr rfl
theorem ABt:lends 81=false:=nr rfl
theorem A4c:lends 82=false:=nr rfl
theorem ABu:lends 83=false:=nr rfl
theorem ABv:lends 84=false:=nr rfl
theorem ABw:lends 85=false:=nr rfl
theorem ABx:lends 86=false:=nr rfl
theorem ABy:lends 87=false:=nr rfl
theorem ABz:lends 88=false:=nr rfl
theorem AC0:lends 89=false:=nr rfl
theorem AC1:lends 90=false:=nr rfl
theorem AC2:lends 91=false:=nr rfl
theorem AC3:lends 92=false:=nr rfl
theorem AC4:lends 93=false:=nr rfl
theorem AC5:lends 94=false:=nr rfl
theorem A4d:lends 95=false:=nr rfl
theorem AC6:lends 96=false:=nr rfl
theorem AC7:lends 97=false:=nr rfl
theorem AC8:lends 98=false:=nr rfl
theorem AC9:lends 99=false:=nr rfl
theorem A1m:lends 100=false:=nr rfl
theorem A1n:lends 101=false:=nr rfl
theorem A1o:lends 102=true:=nr rfl
theorem A1p:lends 103=true:=nr rfl
theorem A1q:lends 104=false:=nr rfl
theorem A1r:lends 105=false:=nr rfl
theorem A1s:lends 106=false:=nr rfl
theorem A1t:lends 107=false:=nr rfl
theorem A1u:lends 108=false:=nr rfl
theorem A1v:lends 109=false:=nr rfl
theorem A1w:lends 110=true:=nr rfl
theorem A1x:lends 111=false:=nr rfl
theorem A1y:lends 112=false:=nr rfl
theorem A1z:lends 113=false:=nr rfl
theorem A20:lends 114=false:=nr rfl
theorem A21:lends 115=false:=nr rfl
theorem A22:lends 116=false:=nr rfl
theorem A23:lends 117=false:=nr rfl
theorem A24:lends 118=false:=nr rfl
theorem A25:lends 119=false:=nr rfl
theorem A26:lends 120=false:=nr rfl
theorem A27:lends 121=false:=nr rfl
theorem A28:lends 122=false:=nr rfl
theorem A29:lends 123=false:=nr rfl
theorem A2A:lends 124=false:=nr rfl
theorem A2B:lends 125=false:=nr rfl
theorem A2C:lends 126=false:=nr rfl
theorem A2D:lends 127=false:=nr rfl
theorem A2E:lends 128=false:=nr rfl
theorem A2F:lends 129=false:=nr rfl
theorem A2G:lends 130=false:=nr rfl
theorem A2H:lends 131=false:=nr rfl
theorem A2I:lends 132=false:=nr rfl
theorem A2J:lends 133=false:=nr rfl
theorem A2K:lends 134=false:=nr rfl
theorem A2L:lends 135=false:=nr rfl
theorem A2M:lends 136=false:=nr rfl
theorem A2N:lends 137=false:=nr rfl
theorem A2O:lends 138=false:=nr rfl
theorem A2P:lends 139=false:=nr rfl
theorem A2Q:lends 140=false:=nr rfl
theorem A2R:lends 141=false:=nr rfl
theorem A2S:lends 142=false:=nr rfl
theorem A2T:lends 143=false:=nr rfl
theorem A2U:lends 144=false:=nr rfl
theorem A2V:lends 145=false:=nr rfl
theorem A2W:lends 146=false:=nr rfl
theorem A2X:lends 147=false:=nr rfl
theorem A2Y:lends 148=false:=nr rfl
theorem A2Z:lends 149=false:=nr rfl
theorem A2a:lends 150=false:=nr rfl
theorem A2b:lends 151=false:=nr rfl
theorem A2c:lends 152=false:=nr rfl
theorem A2d:lends 153=false:=nr rfl
theorem A2e:lends 154=false:=nr rfl
theorem A2f:lends 155=false:=nr rfl
theorem A2g:lends 156=false:=nr rfl
theorem A2h:lends 157=false:=nr rfl
theorem A2i:lends 158=false:=nr rfl
theorem A2j:lends 159=false:=nr rfl
theorem A2k:lends 160=false:=nr rfl
theorem A2l:lends 161=false:=nr rfl
theorem A2m:lends 162=false:=nr rfl
theorem A2n:lends 163=false:=nr rfl
set_option maxRecDepth 100000 in
theorem A0L:Br Tryz.prog AX:=A3S (by kernel_rfl)
theorem mixed:Tryz.prog.follows .mixedOrders=true:=by kernel_rfl
noncomputable def Y0:Dv.Sys:={P:=Tryz.prog,T:=AX,lends:=lends,base:=fun _ _ _=>none}
theorem AGX:Dv.Sys.Ok Y0:=⟨A0L,mixed,fun _ _ _ _ _ h=>by cases h⟩
theorem AGY(T:Tys)(s:St)(t:TypeId):ev T s t (.const .nilFunc)=some (.konst .nilFunc):=nr rfl
theorem AGZ(T:Tys)(s:St)(t:TypeId):ev T s t (.const .nilIface)=some (.konst .nilIface):=nr rfl
theorem AGa(T:Tys)(s:St)(t:TypeId):ev T s t (.const (.pointer none))=some (.konst (.pointer none)):=nr rfl
theorem y0T:Y0.T=AX:=nr rfl
theorem y0L:Y0.lends=lends:=nr rfl
set_option maxRecDepth 10000 in
set_option linter.defProp false in
def ACA:=
A7 @y0T (
A7 @y0L (
A7 @ty3 (
A7 @ty4 (
A7 @ty5 (
A7 @A4X (
A7 @A4Y (
A7 @A9e (
A7 @A4Z (
A7 @A9o (
A7 @A9u (
A7 @AA0 (
A7 @AA6 (
A7 @AAC (
A7 @AAI (
A7 @AAO (
A7 @AAU (
A7 @AAa (
A7 @AAg (
A7 @A16 (
A7 @A1C (
A7 @A1I (
A7 @A1O (
A7 @A1U (
A7 @A1a (
A7 @A1g (
A7 @kn3 (
A7 @st3 (
A7 @sz3 (
A7 @zr3 (
A7 @kn4 (
A7 @st4 (
A7 @sz4 (
A7 @zr4 (
A7 @kn5 (
A7 @st5 (
A7 @sz5 (
A7 @zr5 (
A7 @A9U (
A7 @A9V (
A7 @A9Y (
A7 @A9W (
A7 @A9Z (
A7 @A9a (
A7 @A9d (
A7 @A9b (
A7 @A9f (
A7 @A9g (
A7 @A9j (
A7 @A9h (
A7 @A9k (
A7 @A9l (
A7 @A0J (
A7 @A9m (
A7 @A9p (
A7 @A9q (
A7 @A9t (
A7 @A9r (
A7 @A9v (
A7 @A9w (
A7 @A9z (
A7 @A9x (
A7 @AA1 (
A7 @AA2 (
A7 @AA5 (
A7 @AA3 (
A7 @AA7 (
A7 @AA8 (
A7 @AAB (
A7 @AA9 (
A7 @AAD (
A7 @AAE (
A7 @AAH (
A7 @AAF (
A7 @AAJ (
A7 @AAK (
A7 @AAN (
A7 @AAL (
A7 @AAP (
A7 @AAQ (
A7 @AAT (
A7 @AAR (
A7 @AAV (
A7 @AAW (
A7 @AAZ (
A7 @AAX (
A7 @AAb (
A7 @AAc (
A7 @AAf (
A7 @AAd (
A7 @AAh (
A7 @AAi (
A7 @AAl (
A7 @AAj (
A7 @A17 (
A7 @A18 (
A7 @A1B (
A7 @A19 (
A7 @A1D (
A7 @A1E (
A7 @A1H (
A7 @A1F (
A7 @A1J (
A7 @A1K (
A7 @A1N (
A7 @A1L (
A7 @A1P (
A7 @A1Q (
A7 @A1T (
A7 @A1R (
A7 @A1V (
A7 @A1W (
A7 @A1Z (
A7 @A1X (
A7 @A1b (
A7 @A1c (
A7 @A1f (
A7 @A1d (
A7 @A1h (
A7 @A1i (
A7 @A1l (
A7 @A1j (
A7 @A9c (
A7 @A9i (
A7 @AAA (
A7 @AAS (
A7 @wV (
A7 @wW (
A7 @wX (
A7 @wY (
A7 @zo3 (
A7 @zo4 (
A7 @zo5 (
A7 @A9X (
A7 @A9n (
A7 @A9s (
A7 @A9y (
A7 @AA4 (
A7 @AAG (
A7 @AAM (
A7 @AAY (
A7 @AAe (
A7 @AAk (
A7 @A1A (
A7 @A1G (
A7 @A1M (
A7 @A1S (
A7 @A1Y (
A7 @A1e (
A7 @A1k (
A7 @le3 (
A7 @le4 (
A7 @le5 (
A7 @le6 (
A7 @le7 (
A7 @le8 (
A7 @le9 (
A7 @AAm (
A7 @AAn (
A7 @AAo (
A7 @AAp (
A7 @AAq (
A7 @AAr (
A7 @AAs (
A7 @AAt (
A7 @AAu (
A7 @AAv (
A7 @AAw (
A7 @AAx (
A7 @AAy (
A7 @AAz (
A7 @AB0 (
A7 @AB1 (
A7 @AB2 (
A7 @AB3 (
A7 @AB4 (
A7 @AB5 (
A7 @AB6 (
A7 @AB7 (
A7 @AB8 (
A7 @AB9 (
A7 @ABA (
A7 @ABB (
A7 @ABC (
A7 @ABD (
A7 @ABE (
A7 @ABF (
A7 @ABG (
A7 @ABH (
A7 @ABJ (
A7 @ABK (
A7 @ABL (
A7 @ABM (
A7 @ABN (
A7 @ABO (
A7 @ABP (
A7 @ABQ (
A7 @ABR (
A7 @ABS (
A7 @A0K (
A7 @ABT (
A7 @ABU (
A7 @ABV (
A7 @ABW (
A7 @ABX (
A7 @ABY (
A7 @ABZ (
A7 @ABa (
A7 @ABb (
A7 @ABc (
A7 @ABd (
A7 @A4a (
A7 @ABe (
A7 @ABf (
A7 @ABg (
A7 @ABh (
A7 @ABi (
A7 @ABj (
A7 @ABk (
A7 @ABl (
A7 @ABm (
A7 @A4b (
A7 @ABn (
A7 @ABo (
A7 @ABp (
A7 @ABq (
A7 @ABr (
A7 @ABs (
A7 @ABt (
A7 @A4c (
A7 @ABu (
A7 @ABv (
A7 @ABw (
A7 @ABx (
A7 @ABy (
A7 @ABz (
A7 @AC0 (
A7 @AC1 (
A7 @AC2 (
A7 @AC3 (
A7 @AC4 (
A7 @AC5 (
A7 @A4d (
A7 @AC6 (
A7 @AC7 (
A7 @AC8 (
A7 @AC9 (
A7 @A1m (
A7 @A1n (
A7 @A1o (
A7 @A1p (
A7 @A1q (
A7 @A1r (
A7 @A1s (
A7 @A1t (
A7 @A1u (
A7 @A1v (
A7 @A1w (
A7 @A1x (
A7 @A1y (
A7 @A1z (
A7 @A20 (
A7 @A21 (
A7 @A22 (
A7 @A23 (
A7 @A24 (
A7 @A25 (
A7 @A26 (
A7 @A27 (
A7 @A28 (
A7 @A29 (
A7 @A2A (
A7 @A2B (
A7 @A2C (
A7 @A2D (
A7 @A2E (
A7 @A2F (
A7 @A2G (
A7 @A2H (
A7 @A2I (
A7 @A2J (
A7 @A2K (
A7 @A2L (
A7 @A2M (
A7 @A2N (
A7 @A2O (
A7 @A2P (
A7 @A2Q (
A7 @A2R (
A7 @A2S (
A7 @A2T (
A7 @A2U (
A7 @A2V (
A7 @A2W (
A7 @A2X (
A7 @A2Y (
A7 @A2Z (
A7 @A2a (
A7 @A2b (
A7 @A2c (
A7 @A2d (
A7 @A2e (
A7 @A2f (
A7 @A2g (
A7 @A2h (
A7 @A2i (
A7 @A2j (
A7 @A2k (
A7 @A2l (
A7 @A2m (@A2n))))))))))))))))))))))))))))))))))))))))))))))))))))))))))))))))))))))))))))))))))))))))))))))))))))))))))))))))))))))))))))))))))))))))))))))))))))))))))))))))))))))))))))))))))))))))))))))))))))))))))))))))))))))))))))))))))))))))))))))))))))))))))))))))))))))))))))))))))))))))))))))))))))))))))))))))))))))
def wZ:SC:= .seq (.ops [oX 2 (.assign (.const (.slice none 0 0))) 27]) (.seq (.seq (.ops [oM 3 0 27,oB 4 .eql 27 (tK 3) (.const (.slice none 0 0)) 27 4]) (.cond (tK 4) (.seq (.ops [oX 2 (.assign (.const (.slice none 0 0))) 27]) .ret) .skip)) (.seq (.ops [oX 5 (.buildSlice 27 0 #[]) 27,oM 6 0 27,oX 7 (.call ⟨(.builtin .append), #[(tK 5),(tK 6)], #[27,27]⟩) 27,oA 2 7 27]) .ret))
theorem p9:Tryz.f106.body.map (BP lends)=some wZ:=by kernel_rfl
theorem A2o:Be Tryz.f106 1=true:=by kernel_rfl
theorem nH(A:Option Addr)(c:Nat):Y0.call 106 [.konst (.slice A 0 c)] []=some (.own 3 [],[]):=by
 refine AJ (Y:=Y0) rfl Tryz.func106 A2o p9 ?_;show BZ Y0.env wZ (Eh AX 0 [ResultVar.tmp 2] _) _
 unfold wZ
 cases A<;>simp only [↓AB,BG,ACA,implies_true,CO,Ol,Option.isSome_some,↓reduceIte,Nat.reduceEqDiff,Nat.reduceLT,Nat.reduceLeDiff,Nat.reduceAdd,Nat.reduceMul,Nat.reduceMod,Nat.reduceSub,List.contains_cons,List.contains_nil,Nat.reduceBEq,List.getD_cons_zero,List.getD_cons_succ,List.getD_nil,Ik,Qe,List.size_toArray,List.toList_toArray,List.zip_cons_cons,List.zip_nil_left,Oj,QV,Wp,QW,List.map_nil,kg,List.replicate_zero,List.set_cons_zero,gT,List.set_set,Ws,List.any_cons,List.any_nil,List.all_nil,Oz,Uf,List.getElem?_nil,List.range_zero,beq_self_eq_true,Int.reduceLE,Int.reduceLT,Int.reduceEq,Int.reduceSub,Int.reduceAdd,Int.reduceToNat,Int.reduceNeg,Option.isNone_none,Option.isNone_some]
theorem A0M:Dv.Good Tryz.prog AX 106 [.sl 3 []] [] (.own 3 []) []:=mW kn3 (fun A c=>Dv.Sys.call_good AGX (nH A c))
def wh(f:FuncId)(a l:List D):Option (D×List D):=
 match f,a,l with
 | 106,[.sl 3 []],[]=>some (.own 3 [],[])
 | _,_,_=>none
theorem A0N: ∀f a l r outs,wh f a l=some (r,outs)→Dv.Good Tryz.prog AX f a l r outs:=by
 intro f a l r outs h;unfold wh at h
 split at h
 ·simp only [Option.some.injEq,Prod.mk.injEq]at h;obtain⟨rfl,rfl⟩:=h;exact A0M
 ·cases h
theorem wm: ∀zs:List Int,zs.length<4611686018427387904→Dv.Good Tryz.prog AX 68 [.vw [100000] 0 0] [.own 3 (Fx zs)] (.tup []) [.own 3 (Fx (Dj zs))]:=fun zs h=>
 rY ⟨Tryz.f68,Tryz.func68,rfl,by decide⟩ sz3 (fun blk off cap zs w h1 h2 h3=>Tryz.slices_Sort_int blk off cap zs w h1 h2 h3) (fun p cap w=>Tryz.slices_Sort_int_none p cap w) zs h
theorem nI: ∀zs:List Int,zs.length<1099511627776→Dv.Good Tryz.prog AX 125 [.clo 141 [.cptr [.sl 3 (Fx zs)]]] [] (.own 3 (Fx (Dj zs))) []:=fun zs h=>
 jY ⟨Tryz.f125,Tryz.func125,rfl,by decide⟩ sz3
  (fun p ad cap w h1 h2=>callsIn_wide.1 (Go.Proofs.sv.sorted_in 5 (IB _) p _ [] (by decide) (by decide) w h1 h2 (.inl ⟨ad,cap,rfl,rfl⟩)))
  (fun p b off cap zs w h0 h1 h2 h3 h4=>callsIn_wide.1 (Go.Proofs.sv.sorted_in 5 (IB _) p _ zs (by have:maxLen=9223372036854775807:=rfl;omega) (by omega) w h1 h2 (.inr ⟨b,off,cap,rfl,h3,h4⟩))) zs h
theorem ru: ∀xss:List (List Int),xss.length<4611686018427387904→(∀x∈xss,x.length≤9223372036854775807)→Dv.Good Tryz.prog AX 102 [.vw [100000] 0 0,.clo 64 []] [.own 27 (A8 (fun x=> .own 3 (A8 (D.int .i64) x)) xss)] (.tup []) [.own 27 (A8 (fun x=> .own 3 (A8 (D.int .i64) x)) (EO xss))]:=fun xss h h2=>
 nD ⟨Tryz.f102,Tryz.func102,rfl,by decide⟩ A0J sz3 Go.Proofs.sf.enters Go.Proofs.sf.compare Go.Proofs.sf.sorts (fun p cap fv w=>Tryz.slices_SortFunc_none (α:=Nat) p cap fv w) xss h h2
theorem ry: ∀xss:List (List Int),xss.length≤9223372036854775807→(∀x∈xss,x.length≤9223372036854775807)→Dv.Good Tryz.prog AX 103 [.vw [100000] 0 0,.clo 104 []] [.own 27 (A8 (fun x=> .own 3 (A8 (D.int .i64) x)) xss)] (.own 27 (A8 (fun x=> .own 3 (A8 (D.int .i64) x)) (dedL xss))) [.undef]:=fun xss h h2=>
 nG ⟨Tryz.f103,Tryz.func103,rfl,by decide⟩ A0J sz3 Go.Proofs.ce.equal Go.Proofs.cf.compact Go.Proofs.cf.none_ xss h h2
theorem A0O: ∀(zs:List Int) (i j:Nat),0<zs.length→i≤j→j≤zs.length→Dv.Good Tryz.prog AX 110 [.vw [100000] 0 0,.int .i64 i,.int .i64 j] [.own 3 (Fx zs)] (.own 3 (Fx (SB zs i j))) [.undef]:=fun zs i j h1 h2 h3=>
 jb ⟨Tryz.f110,Tryz.func110,rfl,by decide⟩ sz3 (fun blk off cap zs i j w h1 h2 h3 h4 h5=>Tryz.slices_Delete_int blk off cap i j zs w h1 h2 h3 h4 h5) zs i j h1 h2 h3
theorem nJ: ∀n:Nat,n<1099511627776→Dv.Good Tryz.prog AX 98 [.konst (.slice none 0 0),.int .i64 n] [] (.own 3 []) []:=fun n h=>
 mr (ρ:=Tryz.laysGrow98_ren) A0L Tryz.laysGrow98 ⟨Tryz.f98,Tryz.func98,rfl,by decide⟩ kn3 sz3 n h
noncomputable def Y:Dv.Sys:={P:=Tryz.prog,T:=AX,lends:=lends,base:=Oo (R6 98 3) (Oo (Oo (Oo (Oo (Oo wh (R5 68 3)) (Nj 125 141 3)) (PS 102 64 27 3)) (PT 103 104 27 3)) (U4 110 3))}
theorem yOk:Dv.Sys.Ok Y:=⟨A0L,mixed,Kk (ZA nJ) (Kk (Kk (Kk (Kk (Kk A0N (Z8 wm)) (WE nI)) (Xq ru)) (Xr ry)) (bZ A0O))⟩
theorem wo:AX.ty 900013= .other:=nr rfl
theorem yT:Y.T=AX:=nr rfl
theorem yL:Y.lends=lends:=nr rfl
set_option maxRecDepth 10000 in
set_option linter.defProp false in
def ACB:=
A7 @wo (
A7 @yT (
A7 @yL (
A7 @AGY (
A7 @AGZ (
A7 @AGa (
A7 @ty3 (
A7 @ty4 (
A7 @ty5 (
A7 @A4X (
A7 @A4Y (
A7 @A9e (
A7 @A4Z (
A7 @A9o (
A7 @A9u (
A7 @AA0 (
A7 @AA6 (
A7 @AAC (
A7 @AAI (
A7 @AAO (
A7 @AAU (
A7 @AAa (
A7 @AAg (
A7 @A16 (
A7 @A1C (
A7 @A1I (
A7 @A1O (
A7 @A1U (
A7 @A1a (
A7 @A1g (
A7 @kn3 (
A7 @st3 (
A7 @sz3 (
A7 @zr3 (
A7 @kn4 (
A7 @st4 (
A7 @sz4 (
A7 @zr4 (
A7 @kn5 (
A7 @st5 (
A7 @sz5 (
A7 @zr5 (
A7 @A9U (
A7 @A9V (
A7 @A9Y (
A7 @A9W (
A7 @A9Z (
A7 @A9a (
A7 @A9d (
A7 @A9b (
A7 @A9f (
A7 @A9g (
A7 @A9j (
A7 @A9h (
A7 @A9k (
A7 @A9l (
A7 @A0J (
A7 @A9m (
A7 @A9p (
A7 @A9q (
A7 @A9t (
A7 @A9r (
A7 @A9v (
A7 @A9w (
A7 @A9z (
A7 @A9x (
A7 @AA1 (
A7 @AA2 (
A7 @AA5 (
A7 @AA3 (
A7 @AA7 (
A7 @AA8 (
A7 @AAB (
A7 @AA9 (
A7 @AAD (
A7 @AAE (
A7 @AAH (
A7 @AAF (
A7 @AAJ (
A7 @AAK (
A7 @AAN (
A7 @AAL (
A7 @AAP (
A7 @AAQ (
A7 @AAT (
A7 @AAR (
A7 @AAV (
A7 @AAW (
A7 @AAZ (
A7 @AAX (
A7 @AAb (
A7 @AAc (
A7 @AAf (
A7 @AAd (
A7 @AAh (
A7 @AAi (
A7 @AAl (
A7 @AAj (
A7 @A17 (
A7 @A18 (
A7 @A1B (
A7 @A19 (
A7 @A1D (
A7 @A1E (
A7 @A1H (
A7 @A1F (
A7 @A1J (
A7 @A1K (
A7 @A1N (
A7 @A1L (
A7 @A1P (
A7 @A1Q (
A7 @A1T (
A7 @A1R (
A7 @A1V (
A7 @A1W (
A7 @A1Z (
A7 @A1X (
A7 @A1b (
A7 @A1c (
A7 @A1f (
A7 @A1d (
A7 @A1h (
A7 @A1i (
A7 @A1l (
A7 @A1j (
A7 @A9c (
A7 @A9i (
A7 @AAA (
A7 @AAS (
A7 @wV (
A7 @wW (
A7 @wX (
A7 @wY (
A7 @zo3 (
A7 @zo4 (
A7 @zo5 (
A7 @A9X (
A7 @A9n (
A7 @A9s (
A7 @A9y (
A7 @AA4 (
A7 @AAG (
A7 @AAM (
A7 @AAY (
A7 @AAe (
A7 @AAk (
A7 @A1A (
A7 @A1G (
A7 @A1M (
A7 @A1S (
A7 @A1Y (
A7 @A1e (
A7 @A1k (
A7 @le3 (
A7 @le4 (
A7 @le5 (
A7 @le6 (
A7 @le7 (
A7 @le8 (
A7 @le9 (
A7 @AAm (
A7 @AAn (
A7 @AAo (
A7 @AAp (
A7 @AAq (
A7 @AAr (
A7 @AAs (
A7 @AAt (
A7 @AAu (
A7 @AAv (
A7 @AAw (
A7 @AAx (
A7 @AAy (
A7 @AAz (
A7 @AB0 (
A7 @AB1 (
A7 @AB2 (
A7 @AB3 (
A7 @AB4 (
A7 @AB5 (
A7 @AB6 (
A7 @AB7 (
A7 @AB8 (
A7 @AB9 (
A7 @ABA (
A7 @ABB (
A7 @ABC (
A7 @ABD (
A7 @ABE (
A7 @ABF (
A7 @ABG (
A7 @ABH (
A7 @ABJ (
A7 @ABK (
A7 @ABL (
A7 @ABM (
A7 @ABN (
A7 @ABO (
A7 @ABP (
A7 @ABQ (
A7 @ABR (
A7 @ABS (
A7 @A0K (
A7 @ABT (
A7 @ABU (
A7 @ABV (
A7 @ABW (
A7 @ABX (
A7 @ABY (
A7 @ABZ (
A7 @ABa (
A7 @ABb (
A7 @ABc (
A7 @ABd (
A7 @A4a (
A7 @ABe (
A7 @ABf (
A7 @ABg (
A7 @ABh (
A7 @ABi (
A7 @ABj (
A7 @ABk (
A7 @ABl (
A7 @ABm (
A7 @A4b (
A7 @ABn (
A7 @ABo (
A7 @ABp (
A7 @ABq (
A7 @ABr (
A7 @ABs (
A7 @ABt (
A7 @A4c (
A7 @ABu (
A7 @ABv (
A7 @ABw (
A7 @ABx (
A7 @ABy (
A7 @ABz (
A7 @AC0 (
A7 @AC1 (
A7 @AC2 (
A7 @AC3 (
A7 @AC4 (
A7 @AC5 (
A7 @A4d (
A7 @AC6 (
A7 @AC7 (
A7 @AC8 (
A7 @AC9 (
A7 @A1m (
A7 @A1n (
A7 @A1o (
A7 @A1p (
A7 @A1q (
A7 @A1r (
A7 @A1s (
A7 @A1t (
A7 @A1u (
A7 @A1v (
A7 @A1w (
A7 @A1x (
A7 @A1y (
A7 @A1z (
A7 @A20 (
A7 @A21 (
A7 @A22 (
A7 @A23 (
A7 @A24 (
A7 @A25 (
A7 @A26 (
A7 @A27 (
A7 @A28 (
A7 @A29 (
A7 @A2A (
A7 @A2B (
A7 @A2C (
A7 @A2D (
A7 @A2E (
A7 @A2F (
A7 @A2G (
A7 @A2H (
A7 @A2I (
A7 @A2J (
A7 @A2K (
A7 @A2L (
A7 @A2M (
A7 @A2N (
A7 @A2O (
A7 @A2P (
A7 @A2Q (
A7 @A2R (
A7 @A2S (
A7 @A2T (
A7 @A2U (
A7 @A2V (
A7 @A2W (
A7 @A2X (
A7 @A2Y (
A7 @A2Z (
A7 @A2a (
A7 @A2b (
A7 @A2c (
A7 @A2d (
A7 @A2e (
A7 @A2f (
A7 @A2g (
A7 @A2h (
A7 @A2i (
A7 @A2j (
A7 @A2k (
A7 @A2l (
A7 @A2m (@A2n))))))))))))))))))))))))))))))))))))))))))))))))))))))))))))))))))))))))))))))))))))))))))))))))))))))))))))))))))))))))))))))))))))))))))))))))))))))))))))))))))))))))))))))))))))))))))))))))))))))))))))))))))))))))))))))))))))))))))))))))))))))))))))))))))))))))))))))))))))))))))))))))))))))))))))))))))))))))))
theorem A0P(n:Int)(h:0≤n∧n<1099511627776):Y.call 98 [.konst (.slice none 0 0),.int .i64 n] []=some (.own 3 [],[]):=Dv.Sys.call_base (EN<|jZ 98 3 n h)
theorem nK(zs:List Int)(h:zs.length<1099511627776):Y.call 125 [.clo 141 [.cptr [.sl 3 (A8 (D.int .i64) zs)]]] []=some (.own 3 (A8 (D.int .i64) (Dj zs)),[]):=Dv.Sys.call_base (EN<|EN<|EN<|(Z9 125 141 3 zs h))
theorem rz(xss:List (List Int))(h:xss.length<4611686018427387904)(h2: ∀x∈xss,x.length≤9223372036854775807):Y.call 102 [.vw [100000] 0 0,.clo 64 []] [.own 27 (A8 (fun x=> .own 3 (A8 (D.int .i64) x)) xss)]=some (.tup [],[.own 27 (A8 (fun x=> .own 3 (A8 (D.int .i64) x)) (EO xss))]):=Dv.Sys.call_base (EN<|EN<|(bY 102 64 27 3 xss h h2))
theorem sD(xss:List (List Int))(h:xss.length≤9223372036854775807)(h2: ∀x∈xss,x.length≤9223372036854775807):Y.call 103 [.vw [100000] 0 0,.clo 104 []] [.own 27 (A8 (fun x=> .own 3 (A8 (D.int .i64) x)) xss)]=some (.own 27 (A8 (fun x=> .own 3 (A8 (D.int .i64) x)) (dedL xss)),[.undef]):=Dv.Sys.call_base (EN<|(bf 103 104 27 3 xss h h2))
theorem A0Q(zs:List Int)(i j:Int)(h:0<zs.length∧0≤i∧i≤j∧j≤(zs.length:Int)):Y.call 110 [.vw [100000] 0 0,.int .i64 i,.int .i64 j] [.own 3 (A8 (D.int .i64) zs)]=some (.own 3 (A8 (D.int .i64) (SB zs i.toNat j.toNat)),[.undef]):=Dv.Sys.call_base (nE 110 3 zs i j h)
theorem bg(zs:List Int)(h:zs.length<4611686018427387904):Y.call 68 [.vw [100000] 0 0] [.own 3 (A8 (D.int .i64) zs)]=some (.tup [],[.own 3 (A8 (D.int .i64) (Dj zs))]):=Dv.Sys.call_base (EN<|EN<|EN<|EN<|(jX 68 3 zs h))
theorem sG(xs:List D)(h:xs.length<1099511627776)(hs:xs.all Cz=true)(ho:Ac xs=false)(hf:(Dl (.own 3 xs)).isSome=true):Y.call 106 [.sl 3 xs] []=some (.own 3 xs,[]):=by
 cases xs with
 | nil=>exact Dv.Sys.call_base rfl
 | cons x xs=>
  refine AJ (Y:=Y) rfl Tryz.func106 A2o p9 ?_;show BZ Y.env wZ (Eh AX 0 [ResultVar.tmp 2] _) _
  unfold wZ;have h0:0+(x::xs).length<1099511627776:=by omega
  simp only [Ik,Lj]at h0;simp only [Ws,ol]at hs ho;simp only [↓AB,BG,ACB,implies_true,CO,Ol,Option.isSome_some,↓reduceIte,Nat.reduceEqDiff,Nat.reduceLT,Nat.reduceLeDiff,Nat.reduceAdd,Nat.reduceMul,Nat.reduceMod,Nat.reduceSub,List.contains_cons,List.contains_nil,Nat.reduceBEq,List.getD_cons_zero,List.getD_cons_succ,List.getD_nil,Ik,Qe,List.size_toArray,List.toList_toArray,List.zip_cons_cons,List.zip_nil_left,Oj,QV,Wp,QW,List.map_nil,kg,List.replicate_zero,List.set_cons_zero,gT,List.set_set,Ws,List.any_cons,List.any_nil,List.all_nil,Oz,Uf,List.getElem?_nil,List.range_zero,beq_self_eq_true,Int.reduceLE,Int.reduceLT,Int.reduceEq,Int.reduceSub,Int.reduceAdd,Int.reduceToNat,Int.reduceNeg,Lj,h0,hs,ho];simp only [A11,oq]at hf;rw [if_pos hf]
set_option linter.defProp false in
def AC:=A7 BG (A7 A4W (A7 xc2 (A7 Co ACB)))
end Go.Proofs.YtjhjkfoabhplfaaGreat
