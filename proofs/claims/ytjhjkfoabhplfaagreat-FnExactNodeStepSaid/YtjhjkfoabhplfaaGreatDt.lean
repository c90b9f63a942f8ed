/- The types of this seat as data, and the system of its calls. Conditions: none. -/
import Derived.Test.YtjhjkfoabhplfaaGreatRows
import Derived.Test.YtjhjkfoabhplfaaGreatL6
import Derived.Test.YtjhjkfoabhplfaaGreatSv
import Derived.Test.YtjhjkfoabhplfaaGreatSf
import Derived.Test.YtjhjkfoabhplfaaGreatCf
import Derived.Test.YtjhjkfoabhplfaaGreatSh
import Derived.KernelRfl
namespace Go.Proofs.YtjhjkfoabhplfaaGreat
open Go Dv
set_option linter.unusedSimpArgs false
set_option maxRecDepth 100000
def tab:List Ty:=[.other,.func,.int .i64,.int .i64,.bool,.int .u8,.int .u8,.struct [2,3,4,6],.struct [2,3,4,6],.string,.string,.string,.int .u64,.struct [9,12],.struct [9,12],.ptr,.ptr,.ptr,.struct [17],.struct [17],.other,.int .i32,.slice 27,.struct [3,3,22,22],.struct [3,3,22,22],.func,.struct [3,3,22,22],.slice 3,.other,.func,.func,.func,.func,.func,.func,.func,.other,.func,.func,.func,.func,.func,.func,.func,.func,.func,.other,.func,.func,.other,.func,.func,.func,.slice 4,.struct [3,3,22,22,53],.struct [3,3,22,22,53],.func,.func,.ptr,.func,.func,.func,.func,.func,.func,.func,.func,.func,.func,.func,.func,.func,.other,.func,.func,.func,.func,.func,.struct [3,3,22,22,27],.struct [3,3,22,22,27],.func,.func,.func,.func,.func,.func,.func,.func,.func,.func,.func,.int .u64,.func,.func,.func,.func,.func,.func,.func,.func,.int .i64,.other,.func,.func,.func,.func,.int .u32,.func,.int .u64,.func,.func,.func,.func,.func,.func,.int .u64,.func,.func,.func,.ptr,.func,.func,.func,.func,.func,.func,.ptr,.other,.func,.func,.func,.func,.func,.func,.struct [17,17,17,9],.struct [17,17,17,9],.other,.other,.other,.func,.int .u8,.int .u8,.func,.ptr,.int .i32,.int .i32,.struct [12,12,106,140,5,5,141,142,143,144,145],.struct [12,12,106,140,5,5,141,142,143,144,145]]
def nst:List (TypeId×List (Nat×TypeId)):=[(54,[(0,26),(4,53)]),(55,[(0,26),(4,53)]),(78,[(0,26),(4,27)]),(79,[(0,26),(4,27)])]
def Ah:Tys:=uM tab nst
def lends(f:FuncId):Bool:=[12,13,27,68,69,71,72,102,103,110].contains f
theorem ty1:Ah.ty 1= .func:=nr rfl
theorem ty2:Ah.ty 2= .int .i64:=nr rfl
theorem ty3:Ah.ty 3= .int .i64:=nr rfl
theorem kn3:Ah.known 3=true:=nr rfl
theorem st3:Ah.isStruct 3=false:=nr rfl
theorem zr3:Ah.zeros 3=[.int .i64 0]:=nr rfl
theorem zo3:Ah.zero1 3= .int .i64 0:=nr rfl
theorem sz3:Ah.size 3=1:=nr rfl
theorem ty4:Ah.ty 4= .bool:=nr rfl
theorem kn4:Ah.known 4=true:=nr rfl
theorem st4:Ah.isStruct 4=false:=nr rfl
theorem zr4:Ah.zeros 4=[.bool false]:=nr rfl
theorem zo4:Ah.zero1 4= .bool false:=nr rfl
theorem sz4:Ah.size 4=1:=nr rfl
theorem ty5:Ah.ty 5= .int .u8:=nr rfl
theorem kn5:Ah.known 5=true:=nr rfl
theorem st5:Ah.isStruct 5=false:=nr rfl
theorem zr5:Ah.zeros 5=[.int .u8 0]:=nr rfl
theorem zo5:Ah.zero1 5= .int .u8 0:=nr rfl
theorem sz5:Ah.size 5=1:=nr rfl
theorem ty6:Ah.ty 6= .int .u8:=nr rfl
theorem ty7:Ah.ty 7= .struct [2,3,4,6]:=nr rfl
theorem ty8:Ah.ty 8= .struct [2,3,4,6]:=nr rfl
theorem ty9:Ah.ty 9= .string:=nr rfl
theorem AMf:Ah.ty 10= .string:=nr rfl
theorem AMg:Ah.ty 11= .string:=nr rfl
theorem AMh:Ah.ty 12= .int .u64:=nr rfl
theorem AMi:Ah.ty 13= .struct [9,12]:=nr rfl
theorem AMj:Ah.ty 14= .struct [9,12]:=nr rfl
theorem AMk:Ah.ty 15= .ptr:=nr rfl
theorem AMl:Ah.ty 16= .ptr:=nr rfl
theorem AMm:Ah.ty 17= .ptr:=nr rfl
theorem AMn:Ah.ty 18= .struct [17]:=nr rfl
theorem AMo:Ah.ty 19= .struct [17]:=nr rfl
theorem AMp:Ah.ty 21= .int .i32:=nr rfl
theorem A5J:Ah.ty 22= .slice 27:=nr rfl
theorem AAD:Ah.known 22=true:=nr rfl
theorem AAE:Ah.isStruct 22=false:=nr rfl
theorem AAF:Ah.zeros 22=[.own 27 []]:=nr rfl
theorem AAG:Ah.zero1 22= .own 27 []:=nr rfl
theorem AAH:Ah.size 22=1:=nr rfl
theorem AMq:Ah.ty 23= .struct [3,3,22,22]:=nr rfl
theorem A5K:Ah.ty 24= .struct [3,3,22,22]:=nr rfl
theorem AAI:Ah.known 24=true:=nr rfl
theorem AAJ:Ah.isStruct 24=true:=nr rfl
theorem AAK:Ah.zeros 24=[.int .i64 0,.int .i64 0,.own 27 [],.own 27 []]:=nr rfl
theorem AAL:Ah.nest 24=none:=nr rfl
theorem AAM:Ah.size 24=4:=nr rfl
theorem AMr:Ah.ty 25= .func:=nr rfl
theorem AAN:Ah.ty 26= .struct [3,3,22,22]:=nr rfl
theorem AAO:Ah.known 26=true:=nr rfl
theorem AAP:Ah.isStruct 26=true:=nr rfl
theorem AAQ:Ah.zeros 26=[.int .i64 0,.int .i64 0,.own 27 [],.own 27 []]:=nr rfl
theorem AAR:Ah.nest 26=none:=nr rfl
theorem AAS:Ah.size 26=4:=nr rfl
theorem A5L:Ah.ty 27= .slice 3:=nr rfl
theorem AAT:Ah.known 27=true:=nr rfl
theorem AAU:Ah.isStruct 27=false:=nr rfl
theorem AAV:Ah.zeros 27=[.own 3 []]:=nr rfl
theorem AAW:Ah.zero1 27= .own 3 []:=nr rfl
theorem A15:Ah.size 27=1:=nr rfl
theorem AMs:Ah.ty 29= .func:=nr rfl
theorem AMt:Ah.ty 30= .func:=nr rfl
theorem AMu:Ah.ty 31= .func:=nr rfl
theorem AAX:Ah.ty 32= .func:=nr rfl
theorem AAY:Ah.known 32=true:=nr rfl
theorem AAZ:Ah.isStruct 32=false:=nr rfl
theorem AAa:Ah.zeros 32=[.konst .nilFunc]:=nr rfl
theorem AAb:Ah.zero1 32= .konst .nilFunc:=nr rfl
theorem AAc:Ah.size 32=1:=nr rfl
theorem AMv:Ah.ty 33= .func:=nr rfl
theorem AMw:Ah.ty 34= .func:=nr rfl
theorem AMx:Ah.ty 35= .func:=nr rfl
theorem AMy:Ah.ty 37= .func:=nr rfl
theorem AMz:Ah.ty 38= .func:=nr rfl
theorem AN0:Ah.ty 39= .func:=nr rfl
theorem AN1:Ah.ty 40= .func:=nr rfl
theorem AN2:Ah.ty 41= .func:=nr rfl
theorem AN3:Ah.ty 42= .func:=nr rfl
theorem AN4:Ah.ty 43= .func:=nr rfl
theorem AN5:Ah.ty 44= .func:=nr rfl
theorem AN6:Ah.ty 45= .func:=nr rfl
theorem AN7:Ah.ty 47= .func:=nr rfl
theorem AN8:Ah.ty 48= .func:=nr rfl
theorem AN9:Ah.ty 50= .func:=nr rfl
theorem ANA:Ah.ty 51= .func:=nr rfl
theorem AAd:Ah.ty 52= .func:=nr rfl
theorem AAe:Ah.known 52=true:=nr rfl
theorem AAf:Ah.isStruct 52=false:=nr rfl
theorem AAg:Ah.zeros 52=[.konst .nilFunc]:=nr rfl
theorem AAh:Ah.zero1 52= .konst .nilFunc:=nr rfl
theorem AAi:Ah.size 52=1:=nr rfl
theorem AAj:Ah.ty 53= .slice 4:=nr rfl
theorem AAk:Ah.known 53=true:=nr rfl
theorem AAl:Ah.isStruct 53=false:=nr rfl
theorem AAm:Ah.zeros 53=[.own 4 []]:=nr rfl
theorem AAn:Ah.zero1 53= .own 4 []:=nr rfl
theorem AAo:Ah.size 53=1:=nr rfl
theorem ANB:Ah.ty 54= .struct [3,3,22,22,53]:=nr rfl
theorem AAp:Ah.ty 55= .struct [3,3,22,22,53]:=nr rfl
theorem AAq:Ah.known 55=true:=nr rfl
theorem AAr:Ah.isStruct 55=true:=nr rfl
theorem AAs:Ah.zeros 55=[.int .i64 0,.int .i64 0,.own 27 [],.own 27 [],.own 4 []]:=nr rfl
theorem AAt:Ah.nest 55=some [(0,26),(4,53)]:=nr rfl
theorem y9:Ah.foff 55 0=some 0:=nr rfl
theorem yA:Ah.foff 55 1=some 4:=nr rfl
theorem AAu:Ah.size 55=5:=nr rfl
theorem ANC:Ah.ty 56= .func:=nr rfl
theorem ANE:Ah.ty 57= .func:=nr rfl
theorem AAv:Ah.ty 58= .ptr:=nr rfl
theorem AAw:Ah.known 58=true:=nr rfl
theorem AAx:Ah.isStruct 58=false:=nr rfl
theorem AAy:Ah.zeros 58=[.konst (.pointer none)]:=nr rfl
theorem AAz:Ah.zero1 58= .konst (.pointer none):=nr rfl
theorem AB0:Ah.size 58=1:=nr rfl
theorem ANF:Ah.ty 59= .func:=nr rfl
theorem ANG:Ah.ty 60= .func:=nr rfl
theorem ANH:Ah.ty 61= .func:=nr rfl
theorem AB1:Ah.ty 62= .func:=nr rfl
theorem AB2:Ah.known 62=true:=nr rfl
theorem AB3:Ah.isStruct 62=false:=nr rfl
theorem AB4:Ah.zeros 62=[.konst .nilFunc]:=nr rfl
theorem AB5:Ah.zero1 62= .konst .nilFunc:=nr rfl
theorem AB6:Ah.size 62=1:=nr rfl
theorem ANI:Ah.ty 63= .func:=nr rfl
theorem ANJ:Ah.ty 64= .func:=nr rfl
theorem ANK:Ah.ty 65= .func:=nr rfl
theorem ANL:Ah.ty 66= .func:=nr rfl
theorem ANM:Ah.ty 67= .func:=nr rfl
theorem ANN:Ah.ty 68= .func:=nr rfl
theorem ANO:Ah.ty 69= .func:=nr rfl
theorem ANP:Ah.ty 70= .func:=nr rfl
theorem ANQ:Ah.ty 71= .func:=nr rfl
theorem ANR:Ah.ty 73= .func:=nr rfl
theorem ANT:Ah.ty 74= .func:=nr rfl
theorem ANU:Ah.ty 75= .func:=nr rfl
theorem ANV:Ah.ty 76= .func:=nr rfl
theorem ANW:Ah.ty 77= .func:=nr rfl
theorem ANX:Ah.ty 78= .struct [3,3,22,22,27]:=nr rfl
theorem AB7:Ah.ty 79= .struct [3,3,22,22,27]:=nr rfl
theorem AB8:Ah.known 79=true:=nr rfl
theorem AB9:Ah.isStruct 79=true:=nr rfl
theorem ABA:Ah.zeros 79=[.int .i64 0,.int .i64 0,.own 27 [],.own 27 [],.own 3 []]:=nr rfl
theorem ABB:Ah.nest 79=some [(0,26),(4,27)]:=nr rfl
theorem yB:Ah.foff 79 0=some 0:=nr rfl
theorem yC:Ah.foff 79 1=some 4:=nr rfl
theorem ABC:Ah.size 79=5:=nr rfl
theorem ANZ:Ah.ty 80= .func:=nr rfl
theorem ANa:Ah.ty 81= .func:=nr rfl
theorem ANb:Ah.ty 82= .func:=nr rfl
theorem ANc:Ah.ty 83= .func:=nr rfl
theorem ANd:Ah.ty 84= .func:=nr rfl
theorem ANe:Ah.ty 85= .func:=nr rfl
theorem ANf:Ah.ty 86= .func:=nr rfl
theorem ABD:Ah.ty 87= .func:=nr rfl
theorem ABE:Ah.known 87=true:=nr rfl
theorem ABF:Ah.isStruct 87=false:=nr rfl
theorem ABG:Ah.zeros 87=[.konst .nilFunc]:=nr rfl
theorem ABH:Ah.zero1 87= .konst .nilFunc:=nr rfl
theorem ABJ:Ah.size 87=1:=nr rfl
theorem ANg:Ah.ty 88= .func:=nr rfl
theorem ANh:Ah.ty 89= .func:=nr rfl
theorem ANi:Ah.ty 90= .func:=nr rfl
theorem ABK:Ah.ty 91= .int .u64:=nr rfl
theorem ABL:Ah.known 91=true:=nr rfl
theorem ABM:Ah.isStruct 91=false:=nr rfl
theorem ABN:Ah.zeros 91=[.int .u64 0]:=nr rfl
theorem ABO:Ah.zero1 91= .int .u64 0:=nr rfl
theorem ABP:Ah.size 91=1:=nr rfl
theorem ANj:Ah.ty 92= .func:=nr rfl
theorem ANk:Ah.ty 93= .func:=nr rfl
theorem ANl:Ah.ty 94= .func:=nr rfl
theorem ANm:Ah.ty 95= .func:=nr rfl
theorem ABQ:Ah.ty 96= .func:=nr rfl
theorem ABR:Ah.known 96=true:=nr rfl
theorem ABS:Ah.isStruct 96=false:=nr rfl
theorem ABT:Ah.zeros 96=[.konst .nilFunc]:=nr rfl
theorem ABU:Ah.zero1 96= .konst .nilFunc:=nr rfl
theorem ABV:Ah.size 96=1:=nr rfl
theorem ANn:Ah.ty 97= .func:=nr rfl
theorem ANo:Ah.ty 98= .func:=nr rfl
theorem ANp:Ah.ty 99= .func:=nr rfl
theorem A1s:Ah.ty 100= .int .i64:=nr rfl
theorem A1t:Ah.known 100=true:=nr rfl
theorem A1u:Ah.isStruct 100=false:=nr rfl
theorem A1v:Ah.zeros 100=[.int .i64 0]:=nr rfl
theorem A1w:Ah.zero1 100= .int .i64 0:=nr rfl
theorem A1x:Ah.size 100=1:=nr rfl
theorem AKP:Ah.ty 102= .func:=nr rfl
theorem AKQ:Ah.ty 103= .func:=nr rfl
theorem AKR:Ah.ty 104= .func:=nr rfl
theorem AKS:Ah.ty 105= .func:=nr rfl
theorem A1y:Ah.ty 106= .int .u32:=nr rfl
theorem A1z:Ah.known 106=true:=nr rfl
theorem A20:Ah.isStruct 106=false:=nr rfl
theorem A21:Ah.zeros 106=[.int .u32 0]:=nr rfl
theorem A22:Ah.zero1 106= .int .u32 0:=nr rfl
theorem A23:Ah.size 106=1:=nr rfl
theorem AKT:Ah.ty 107= .func:=nr rfl
theorem A24:Ah.ty 108= .int .u64:=nr rfl
theorem A25:Ah.known 108=true:=nr rfl
theorem A26:Ah.isStruct 108=false:=nr rfl
theorem A27:Ah.zeros 108=[.int .u64 0]:=nr rfl
theorem A28:Ah.zero1 108= .int .u64 0:=nr rfl
theorem A29:Ah.size 108=1:=nr rfl
theorem AKU:Ah.ty 109= .func:=nr rfl
theorem AKV:Ah.ty 110= .func:=nr rfl
theorem AKW:Ah.ty 111= .func:=nr rfl
theorem A2A:Ah.ty 112= .func:=nr rfl
theorem A2B:Ah.known 112=true:=nr rfl
theorem A2C:Ah.isStruct 112=false:=nr rfl
theorem A2D:Ah.zeros 112=[.konst .nilFunc]:=nr rfl
theorem A2E:Ah.zero1 112= .konst .nilFunc:=nr rfl
theorem A2F:Ah.size 112=1:=nr rfl
theorem A2G:Ah.ty 113= .func:=nr rfl
theorem A2H:Ah.known 113=true:=nr rfl
theorem A2I:Ah.isStruct 113=false:=nr rfl
theorem A2J:Ah.zeros 113=[.konst .nilFunc]:=nr rfl
theorem A2K:Ah.zero1 113= .konst .nilFunc:=nr rfl
theorem A2L:Ah.size 113=1:=nr rfl
theorem AKX:Ah.ty 114= .func:=nr rfl
theorem A2M:Ah.ty 115= .int .u64:=nr rfl
theorem A2N:Ah.known 115=true:=nr rfl
theorem A2O:Ah.isStruct 115=false:=nr rfl
theorem A2P:Ah.zeros 115=[.int .u64 0]:=nr rfl
theorem A2Q:Ah.zero1 115= .int .u64 0:=nr rfl
theorem A2R:Ah.size 115=1:=nr rfl
theorem AKY:Ah.ty 116= .func:=nr rfl
theorem AKZ:Ah.ty 117= .func:=nr rfl
theorem AKa:Ah.ty 118= .func:=nr rfl
theorem A2S:Ah.ty 119= .ptr:=nr rfl
theorem A2T:Ah.known 119=true:=nr rfl
theorem A2U:Ah.isStruct 119=false:=nr rfl
theorem A2V:Ah.zeros 119=[.konst (.pointer none)]:=nr rfl
theorem A2W:Ah.zero1 119= .konst (.pointer none):=nr rfl
theorem A2X:Ah.size 119=1:=nr rfl
theorem AKb:Ah.ty 120= .func:=nr rfl
theorem AKc:Ah.ty 121= .func:=nr rfl
theorem AKd:Ah.ty 122= .func:=nr rfl
theorem AKe:Ah.ty 123= .func:=nr rfl
theorem AKf:Ah.ty 124= .func:=nr rfl
theorem AKg:Ah.ty 125= .func:=nr rfl
theorem AKh:Ah.ty 126= .ptr:=nr rfl
theorem AKi:Ah.ty 128= .func:=nr rfl
theorem AKj:Ah.ty 129= .func:=nr rfl
theorem AKk:Ah.ty 130= .func:=nr rfl
theorem AKl:Ah.ty 131= .func:=nr rfl
theorem AKm:Ah.ty 132= .func:=nr rfl
theorem AKn:Ah.ty 133= .func:=nr rfl
theorem AKo:Ah.ty 134= .struct [17,17,17,9]:=nr rfl
theorem AKp:Ah.ty 135= .struct [17,17,17,9]:=nr rfl
theorem AKq:Ah.ty 139= .func:=nr rfl
theorem AKr:Ah.ty 140= .int .u8:=nr rfl
theorem AKs:Ah.ty 141= .int .u8:=nr rfl
theorem AKt:Ah.ty 142= .func:=nr rfl
theorem AKu:Ah.ty 143= .ptr:=nr rfl
theorem AKv:Ah.ty 144= .int .i32:=nr rfl
theorem AKw:Ah.ty 145= .int .i32:=nr rfl
theorem AKx:Ah.ty 146= .struct [12,12,106,140,5,5,141,142,143,144,145]:=nr rfl
theorem AKy:Ah.ty 147= .struct [12,12,106,140,5,5,141,142,143,144,145]:=nr rfl
theorem le3:lends 3=false:=nr rfl
theorem le4:lends 4=false:=nr rfl
theorem le5:lends 5=false:=nr rfl
theorem le6:lends 6=false:=nr rfl
theorem le7:lends 7=false:=nr rfl
theorem le8:lends 8=false:=nr rfl
theorem le9:lends 9=false:=nr rfl
theorem ABW:lends 10=false:=nr rfl
theorem ABX:lends 11=false:=nr rfl
theorem ABY:lends 12=true:=nr rfl
theorem ABZ:lends 13=true:=nr rfl
theorem ABa:lends 14=false:=nr rfl
theorem ABb:lends 15=false:=nr rfl
theorem ABc:lends 16=false:=nr rfl
theorem ABd:lends 17=false:=nr rfl
theorem ABe:lends 18=false:=nr rfl
theorem ABf:lends 19=false:=nr rfl
theorem ABg:lends 20=false:=nr rfl
theorem ABh:lends 21=false:=nr rfl
theorem ABi:lends 22=false:=nr rfl
theorem ABj:lends 23=false:=nr rfl
theorem ABk:lends 24=false:=nr rfl
theorem ABl:lends 25=false:=nr rfl
theorem ABm:lends 26=false:=nr rfl
theorem ABn:lends 27=true:=nr rfl
theorem ABo:lends 28=false:=nr rfl
theorem ABp:lends 29=false:=nr rfl
theorem ABq:lends 30=false:=nr rfl
theorem ABr:lends 31=false:=nr rfl
theorem ABs:lends 32=false:=nr rfl
theorem ABt:lends 33=false:=nr rfl
theorem ABu:lends 34=false:=nr rfl
theorem ABv:lends 35=false:=nr rfl
theorem ABw:lends 36=false:=nr rfl
theorem ABx:lends 37=false:=nr rfl
theorem ABy:lends 38=false:=nr rfl
theorem ABz:lends 39=false:=nr rfl
theorem AC0:lends 40=false:=nr rfl
theorem AC1:lends 41=false:=nr rfl
theorem AC2:lends 42=false:=nr rfl
theorem AC3:lends 43=false:=nr rfl
theorem AC4:lends 44=false:=nr rfl
theorem AC5:lends 45=false:=nr rfl
theorem AC6:lends 46=false:=nr rfl
theorem AC7:lends 47=false:=nr rfl
theorem AC8:lends 48=false:=nr rfl
theorem AC9:lends 49=false:=nr rfl
theorem ACA:lends 50=false:=nr rfl
theorem ACB:lends 51=false:=nr rfl
theorem A16:lends 52=false:=nr rfl
theorem ACC:lends 53=false:=nr rfl
theorem ACD:lends 54=false:=nr rfl
theorem ACE:lends 55=false:=nr rfl
theorem ACF:lends 56=false:=nr rfl
theorem ACG:lends 57=false:=nr rfl
theorem ACH:lends 58=false:=nr rfl
theorem ACI:lends 59=false:=nr rfl
theorem ACJ:lends 60=false:=nr rfl
theorem ACK:lends 61=false:=nr rfl
theorem ACM:lends 62=false:=nr rfl
theorem ACN:lends 63=false:=nr rfl
theorem A5M:lends 64=false:=nr rfl
theorem ACO:lends 65=false:=nr rfl
theorem ACP:lends 66=false:=nr rfl
theorem ACQ:lends 67=false:=nr rfl
theorem ACR:lends 68=true:=nr rfl
theorem ACS:lends 69=true:=nr rfl
theorem ACT:lends 70=false:=nr rfl
theorem ACU:lends 71=true:=nr rfl
theorem ACV:lends 72=true:=nr rfl
theorem ACW:lends 73=false:=nr rfl
theorem A5N:lends 74=false:=nr rfl
theorem ACX:lends 75=false:=nr rfl
theorem ACY:lends 76=false:=nr rfl
theorem ACZ:lends 77=false:=nr rfl
theorem ACa:lends 78=false:=nr rfl
theorem ACb:lends 79=false:=nr rfl
theorem ACc:lends 80=false:=nr rfl
theorem ACd:lends 81=false:=nr rfl
theorem A5O:lends 82=false:=nr rfl
theorem ACe:lends 83=false:=nr rfl
theorem ACf:lends 84=false:=nr rfl
theorem ACg:lends 85=false:=nr rfl
theorem ACh:lends 86=false:=nr rfl
theorem ACi:lends 87=false:=nr rfl
theorem ACj:lends 88=false:=nr rfl
theorem ACk:lends 89=false:=nr rfl
theorem ACl:lends 90=false:=nr rfl
theorem ACm:lends 91=false:=nr rfl
theorem ACn:lends 92=false:=nr rfl
theorem ACo:lends 93=false:=nr rfl
theorem ACp:lends 94=false:=nr rfl
theorem A5P:lends 95=false:=nr rfl
theorem ACq:lends 96=false:=nr rfl
theorem ACr:lends 97=false:=nr rfl
theorem ACs:lends 98=false:=nr rfl
theorem ACt:lends 99=false:=nr rfl
theorem A2Y:lends 100=false:=nr rfl
theorem A2Z:lends 101=false:=nr rfl
theorem A2a:lends 102=true:=nr rfl
theorem A2b:lends 103=true:=nr rfl
theorem A2c:lends 104=false:=nr rfl
theorem A2d:lends 105=false:=nr rfl
theorem A2e:lends 106=false:=nr rfl
theorem A2f:lends 107=false:=nr rfl
theorem A2g:lends 108=false:=nr rfl
theorem A2h:lends 109=false:=nr rfl
theorem A2i:lends 110=true:=nr rfl
theorem A2j:lends 111=false:=nr rfl
theorem A2k:lends 112=false:=nr rfl
theorem A2l:lends 113=false:=nr rfl
theorem A2m:lends 114=false:=nr rfl
theorem A2n:lends 115=false:=nr rfl
theorem A2o:lends 116=false:=nr rfl
theorem A2p:lends 117=false:=nr rfl
theorem A2q:lends 118=false:=nr rfl
theorem A2r:lends 119=false:=nr rfl
theorem A2s:lends 120=false:=nr rfl
theorem A2t:lends 121=false:=nr rfl
theorem A2u:lends 122=false:=nr rfl
theorem A2v:lends 123=false:=nr rfl
theorem A2w:lends 124=false:=nr rfl
theorem A2x:lends 125=false:=nr rfl
theorem A2y:lends 126=false:=nr rfl
theorem A2z:lends 127=false:=nr rfl
theorem A30:lends 128=false:=nr rfl
theorem A31:lends 129=false:=nr rfl
theorem A32:lends 130=false:=nr rfl
theorem A33:lends 131=false:=nr rfl
theorem A34:lends 132=false:=nr rfl
theorem A35:lends 133=false:=nr rfl
theorem A36:lends 134=false:=nr rfl
theorem A37:lends 135=false:=nr rfl
theorem A38:lends 136=false:=nr rfl
theorem A39:lends 137=false:=nr rfl
theorem A3A:lends 138=false:=nr rfl
theorem A3B:lends 139=false:=nr rfl
theorem A3C:lends 140=false:=nr rfl
theorem A3D:lends 141=false:=nr rfl
theorem A3E:lends 142=false:=nr rfl
theorem A3F:lends 143=false:=nr rfl
theorem A3G:lends 144=false:=nr rfl
theorem A3H:lends 145=false:=nr rfl
theorem A3I:lends 146=false:=nr rfl
theorem A3J:lends 147=false:=nr rfl
theorem A3K:lends 148=false:=nr rfl
theorem A3L:lends 149=false:=nr rfl
theorem A3M:lends 150=false:=nr rfl
theorem A3N:lends 151=false:=nr rfl
theorem A3O:lends 152=false:=nr rfl
theorem A3P:lends 153=false:=nr rfl
theorem A3Q:lends 154=false:=nr rfl
theorem A3R:lends 155=false:=nr rfl
theorem A3S:lends 156=false:=nr rfl
theorem A3T:lends 157=false:=nr rfl
theorem A3U:lends 158=false:=nr rfl
theorem A3V:lends 159=false:=nr rfl
theorem A3W:lends 160=false:=nr rfl
theorem A3X:lends 161=false:=nr rfl
theorem A3Y:lends 162=false:=nr rfl
theorem A3Z:lends 163=false:=nr rfl
set_option maxRecDepth 100000 in
theorem A17:CZ Tryz.prog Ah:=A4E (by kernel_rfl)
theorem mixed:Tryz.prog.follows .mixedOrders=true:=by kernel_rfl
noncomputable def Y0:Dv.Sys:={P:=Tryz.prog,T:=Ah,lends:=lends,base:=fun _ _ _=>none}
theorem AHC:Dv.Sys.Ok Y0:=⟨A17,mixed,fun _ _ _ _ _ h=>by cases h⟩
theorem AHD(T:Tys)(s:St)(t:TypeId):ev T s t (.const .nilFunc)=some (.konst .nilFunc):=nr rfl
theorem AHE(T:Tys)(s:St)(t:TypeId):ev T s t (.const .nilIface)=some (.konst .nilIface):=nr rfl
theorem AHF(T:Tys)(s:St)(t:TypeId):ev T s t (.const (.pointer none))=some (.konst (.pointer none)):=nr rfl
theorem y0T:Y0.T=Ah:=nr rfl
theorem y0L:Y0.lends=lends:=nr rfl
set_option maxRecDepth 10000 in
set_option linter.defProp false in
def ACu:=
 A7 @y0T (
 A7 @y0L (
 A7 @ty3 (
 A7 @ty4 (
 A7 @ty5 (
 A7 @A5J (
 A7 @A5K (
 A7 @AAN (
 A7 @A5L (
 A7 @AAX (
 A7 @AAd (
 A7 @AAj (
 A7 @AAp (
 A7 @AAv (
 A7 @AB1 (
 A7 @AB7 (
 A7 @ABD (
 A7 @ABK (
 A7 @ABQ (
 A7 @A1s (
 A7 @A1y (
 A7 @A24 (
 A7 @A2A (
 A7 @A2G (
 A7 @A2M (
 A7 @A2S (
 A7 @kn3 (
 A7 @st3 (
 A7 @sz3 (
 A7 @zr3 (
 A7 @kn4 (
 A7 @st4 (
 A7 @sz4 (
 A7 @zr4 (
 A7 @kn5 (
 A7 @st5 (
 A7 @sz5 (
 A7 @zr5 (
 A7 @AAD (
 A7 @AAE (
 A7 @AAH (
 A7 @AAF (
 A7 @AAI (
 A7 @AAJ (
 A7 @AAM (
 A7 @AAK (
 A7 @AAO (
 A7 @AAP (
 A7 @AAS (
 A7 @AAQ (
 A7 @AAT (
 A7 @AAU (
 A7 @A15 (
 A7 @AAV (
 A7 @AAY (
 A7 @AAZ (
 A7 @AAc (
 A7 @AAa (
 A7 @AAe (
 A7 @AAf (
 A7 @AAi (
 A7 @AAg (
 A7 @AAk (
 A7 @AAl (
 A7 @AAo (
 A7 @AAm (
 A7 @AAq (
 A7 @AAr (
 A7 @AAu (
 A7 @AAs (
 A7 @AAw (
 A7 @AAx (
 A7 @AB0 (
 A7 @AAy (
 A7 @AB2 (
 A7 @AB3 (
 A7 @AB6 (
 A7 @AB4 (
 A7 @AB8 (
 A7 @AB9 (
 A7 @ABC (
 A7 @ABA (
 A7 @ABE (
 A7 @ABF (
 A7 @ABJ (
 A7 @ABG (
 A7 @ABL (
 A7 @ABM (
 A7 @ABP (
 A7 @ABN (
 A7 @ABR (
 A7 @ABS (
 A7 @ABV (
 A7 @ABT (
 A7 @A1t (
 A7 @A1u (
 A7 @A1x (
 A7 @A1v (
 A7 @A1z (
 A7 @A20 (
 A7 @A23 (
 A7 @A21 (
 A7 @A25 (
 A7 @A26 (
 A7 @A29 (
 A7 @A27 (
 A7 @A2B (
 A7 @A2C (
 A7 @A2F (
 A7 @A2D (
 A7 @A2H (
 A7 @A2I (
 A7 @A2L (
 A7 @A2J (
 A7 @A2N (
 A7 @A2O (
 A7 @A2R (
 A7 @A2P (
 A7 @A2T (
 A7 @A2U (
 A7 @A2X (
 A7 @A2V (
 A7 @AAL (
 A7 @AAR (
 A7 @AAt (
 A7 @ABB (
 A7 @y9 (
 A7 @yA (
 A7 @yB (
 A7 @yC (
 A7 @zo3 (
 A7 @zo4 (
 A7 @zo5 (
 A7 @AAG (
 A7 @AAW (
 A7 @AAb (
 A7 @AAh (
 A7 @AAn (
 A7 @AAz (
 A7 @AB5 (
 A7 @ABH (
 A7 @ABO (
 A7 @ABU (
 A7 @A1w (
 A7 @A22 (
 A7 @A28 (
 A7 @A2E (
 A7 @A2K (
 A7 @A2Q (
 A7 @A2W (
 A7 @le3 (
 A7 @le4 (
 A7 @le5 (
 A7 @le6 (
 A7 @le7 (
 A7 @le8 (
 A7 @le9 (
 A7 @ABW (
 A7 @ABX (
 A7 @ABY (
 A7 @ABZ (
 A7 @ABa (
 A7 @ABb (
 A7 @ABc (
 A7 @ABd (
 A7 @ABe (
 A7 @ABf (
 A7 @ABg (
 A7 @ABh (
 A7 @ABi (
 A7 @ABj (
 A7 @ABk (
 A7 @ABl (
 A7 @ABm (
 A7 @ABn (
 A7 @ABo (
 A7 @ABp (
 A7 @ABq (
 A7 @ABr (
 A7 @ABs (
 A7 @ABt (
 A7 @ABu (
 A7 @ABv (
 A7 @ABw (
 A7 @ABx (
 A7 @ABy (
 A7 @ABz (
 A7 @AC0 (
 A7 @AC1 (
 A7 @AC2 (
 A7 @AC3 (
 A7 @AC4 (
 A7 @AC5 (
 A7 @AC6 (
 A7 @AC7 (
 A7 @AC8 (
 A7 @AC9 (
 A7 @ACA (
 A7 @ACB (
 A7 @A16 (
 A7 @ACC (
 A7 @ACD (
 A7 @ACE (
 A7 @ACF (
 A7 @ACG (
 A7 @ACH (
 A7 @ACI (
 A7 @ACJ (
 A7 @ACK (
 A7 @ACM (
 A7 @ACN (
 A7 @A5M (
 A7 @ACO (
 A7 @ACP (
 A7 @ACQ (
 A7 @ACR (
 A7 @ACS (
 A7 @ACT (
 A7 @ACU (
 A7 @ACV (
 A7 @ACW (
 A7 @A5N (
 A7 @ACX (
 A7 @ACY (
 A7 @ACZ (
 A7 @ACa (
 A7 @ACb (
 A7 @ACc (
 A7 @ACd (
 A7 @A5O (
 A7 @ACe (
 A7 @ACf (
 A7 @ACg (
 A7 @ACh (
 A7 @ACi (
 A7 @ACj (
 A7 @ACk (
 A7 @ACl (
 A7 @ACm (
 A7 @ACn (
 A7 @ACo (
 A7 @ACp (
 A7 @A5P (
 A7 @ACq (
 A7 @ACr (
 A7 @ACs (
 A7 @ACt (
 A7 @A2Y (
 A7 @A2Z (
 A7 @A2a (
 A7 @A2b (
 A7 @A2c (
 A7 @A2d (
 A7 @A2e (
 A7 @A2f (
 A7 @A2g (
 A7 @A2h (
 A7 @A2i (
 A7 @A2j (
 A7 @A2k (
 A7 @A2l (
 A7 @A2m (
 A7 @A2n (
 A7 @A2o (
 A7 @A2p (
 A7 @A2q (
 A7 @A2r (
 A7 @A2s (
 A7 @A2t (
 A7 @A2u (
 A7 @A2v (
 A7 @A2w (
 A7 @A2x (
 A7 @A2y (
 A7 @A2z (
 A7 @A30 (
 A7 @A31 (
 A7 @A32 (
 A7 @A33 (
 A7 @A34 (
 A7 @A35 (
 A7 @A36 (
 A7 @A37 (
 A7 @A38 (
 A7 @A39 (
 A7 @A3A (
 A7 @A3B (
 A7 @A3C (
 A7 @A3D (
 A7 @A3E (
 A7 @A3F (
 A7 @A3G (
 A7 @A3H (
 A7 @A3I (
 A7 @A3J (
 A7 @A3K (
 A7 @A3L (
 A7 @A3M (
 A7 @A3N (
 A7 @A3O (
 A7 @A3P (
 A7 @A3Q (
 A7 @A3R (
 A7 @A3S (
 A7 @A3T (
 A7 @A3U (
 A7 @A3V (
 A7 @A3W (
 A7 @A3X (
 A7 @A3Y (@A3Z))))))))))))))))))))))))))))))))))))))))))))))))))))))))))))))))))))))))))))))))))))))))))))))))))))))))))))))))))))))))))))))))))))))))))))))))))))))))))))))))))))))))))))))))))))))))))))))))))))))))))))))))))))))))))))))))))))))))))))))))))))))))))))))))))))))))))))))))))))))))))))))))))))))))))))))))))))))
def yD:SC:= .seq (.ops [oX 2 (.assign (.const (.slice none 0 0))) 27]) (.seq (.seq (.ops [oM 3 0 27,oB 4 .eql 27 (tK 3) (.const (.slice none 0 0)) 27 4]) (.cond (tK 4) (.seq (.ops [oX 2 (.assign (.const (.slice none 0 0))) 27]) .ret) .skip)) (.seq (.ops [oX 5 (.buildSlice 27 0 #[]) 27,oM 6 0 27,oX 7 (.call ⟨(.builtin .append), #[(tK 5),(tK 6)], #[27,27]⟩) 27,oA 2 7 27]) .ret))
theorem rC:Tryz.f106.body.map (Bw lends)=some yD:=by kernel_rfl
theorem A3a:CP Tryz.f106 1=true:=by kernel_rfl
theorem pX(A:Option Addr)(c:Nat):Y0.call 106 [.konst (.slice A 0 c)] []=some (.own 3 [],[]):=by
 refine AZ (Y:=Y0) rfl Tryz.func106 A3a rC ?_;show CG Y0.env yD (FX Ah 0 [ResultVar.tmp 2] _) _
 unfold yD
 cases A<;>simp only [↓AR,Bd,ACu,implies_true,Cs,Pw,Option.isSome_some,↓reduceIte,Nat.reduceEqDiff,Nat.reduceLT,Nat.reduceLeDiff,Nat.reduceAdd,Nat.reduceMul,Nat.reduceMod,Nat.reduceSub,List.contains_cons,List.contains_nil,Nat.reduceBEq,List.getD_cons_zero,List.getD_cons_succ,List.getD_nil,Ji,Re,List.size_toArray,List.toList_toArray,List.zip_cons_cons,List.zip_nil_left,Pv,RP,Xm,RQ,List.map_nil,mq,List.replicate_zero,List.set_cons_zero,jP,List.set_set,Xo,List.any_cons,List.any_nil,List.all_nil,Q9,VZ,List.getElem?_nil,List.range_zero,beq_self_eq_true,Int.reduceLE,Int.reduceLT,Int.reduceEq,Int.reduceSub,Int.reduceAdd,Int.reduceToNat,Int.reduceNeg,Option.isNone_none,Option.isNone_some]
theorem A18:Dv.Good Tryz.prog Ah 106 [.sl 3 []] [] (.own 3 []) []:=oz kn3 (fun A c=>Dv.Sys.call_good AHC (pX A c))
def yE(f:FuncId)(a l:List D):Option (D×List D):=
 match f,a,l with
 |106,[.sl 3 []],[]=>some (.own 3 [],[])
 |_,_,_=>none
theorem A19: ∀f a l r outs,yE f a l=some (r,outs)→Dv.Good Tryz.prog Ah f a l r outs:=by
 intro f a l r outs h;unfold yE at h
 split at h
 ·simp only [Option.some.injEq,Prod.mk.injEq]at h;obtain⟨rfl,rfl⟩:=h;exact A18
 ·cases h
theorem yF: ∀zs:AL,zs.length<4611686018427387904→Dv.Good Tryz.prog Ah 68 [.vw [100000] 0 0] [.own 3 (Gx zs)] (.tup []) [.own 3 (Gx (ER zs))]:=fun zs h=>
 uW ⟨Tryz.f68,Tryz.func68,rfl,by decide⟩ sz3 (fun blk off cap zs w h1 h2 h3=>Tryz.slices_Sort_int blk off cap zs w h1 h2 h3) (fun p cap w=>Tryz.slices_Sort_int_none p cap w) zs h
theorem pY: ∀zs:AL,zs.length<1099511627776→Dv.Good Tryz.prog Ah 125 [.clo 141 [.cptr [.sl 3 (Gx zs)]]] [] (.own 3 (Gx (ER zs))) []:=fun zs h=>
 lJ ⟨Tryz.f125,Tryz.func125,rfl,by decide⟩ sz3
  (fun p ad cap w h1 h2=>callsIn_wide.1 (Go.Proofs.sv.sorted_in 5 (JE _) p _ [] (by decide) (by decide) w h1 h2 (.inl ⟨ad,cap,rfl,rfl⟩)))
  (fun p b off cap zs w h0 h1 h2 h3 h4=>callsIn_wide.1 (Go.Proofs.sv.sorted_in 5 (JE _) p _ zs (by have:maxLen=9223372036854775807:=rfl;omega) (by omega) w h1 h2 (.inr ⟨b,off,cap,rfl,h3,h4⟩))) zs h
theorem uf: ∀xss:AO,xss.length<4611686018427387904→(∀x∈xss,x.length≤9223372036854775807)→Dv.Good Tryz.prog Ah 102 [.vw [100000] 0 0,.clo 64 []] [.own 27 (AV (fun x=> .own 3 (AV (D.int .i64) x)) xss)] (.tup []) [.own 27 (AV (fun x=> .own 3 (AV (D.int .i64) x)) (F6 xss))]:=fun xss h h2=>
 pU ⟨Tryz.f102,Tryz.func102,rfl,by decide⟩ A15 sz3 Go.Proofs.sf.enters Go.Proofs.sf.compare Go.Proofs.sf.sorts (fun p cap fv w=>Tryz.slices_SortFunc_none (α:=Nat) p cap fv w) xss h h2
theorem ug: ∀xss:AO,xss.length≤9223372036854775807→(∀x∈xss,x.length≤9223372036854775807)→Dv.Good Tryz.prog Ah 103 [.vw [100000] 0 0,.clo 104 []] [.own 27 (AV (fun x=> .own 3 (AV (D.int .i64) x)) xss)] (.own 27 (AV (fun x=> .own 3 (AV (D.int .i64) x)) (dedL xss))) [.undef]:=fun xss h h2=>
 pW ⟨Tryz.f103,Tryz.func103,rfl,by decide⟩ A15 sz3 Go.Proofs.ce.equal Go.Proofs.cf.compact Go.Proofs.cf.none_ xss h h2
theorem A1A: ∀(zs:AL) (i j:Nat),0<zs.length→i≤j→j≤zs.length→Dv.Good Tryz.prog Ah 110 [.vw [100000] 0 0,.int .i64 i,.int .i64 j] [.own 3 (Gx zs)] (.own 3 (Gx (TN zs i j))) [.undef]:=fun zs i j h1 h2 h3=>
 lM ⟨Tryz.f110,Tryz.func110,rfl,by decide⟩ sz3 (fun blk off cap zs i j w h1 h2 h3 h4 h5=>Tryz.slices_Delete_int blk off cap i j zs w h1 h2 h3 h4 h5) zs i j h1 h2 h3
theorem pg: ∀n:Nat,n<1099511627776→Dv.Good Tryz.prog Ah 98 [.konst (.slice none 0 0),.int .i64 n] [] (.own 3 []) []:=fun n h=>
 pO (ρ:=Tryz.laysGrow98_ren) A17 Tryz.laysGrow98 ⟨Tryz.f98,Tryz.func98,rfl,by decide⟩ kn3 sz3 n h
noncomputable def Y:Dv.Sys:={P:=Tryz.prog,T:=Ah,lends:=lends,base:=Pz (SG 98 3) (Pz (Pz (Pz (Pz (Pz yE (SF 68 3)) (Ou 125 141 3)) (QS 102 64 27 3)) (QT 103 104 27 3)) (Uv 110 3))}
theorem yOk:Dv.Sys.Ok Y:=⟨A17,mixed,Lp (aK pg) (Lp (Lp (Lp (Lp (Lp A19 (aI yF)) (XF pY)) (Yl uf)) (Ym ug)) (fG A1A))⟩
theorem yG:Ah.ty 900013= .other:=nr rfl
theorem yT:Y.T=Ah:=nr rfl
theorem yL:Y.lends=lends:=nr rfl
set_option maxRecDepth 10000 in
set_option linter.defProp false in
def ACv:=
 A7 @yG (
 A7 @yT (
 A7 @yL (
 A7 @AHD (
 A7 @AHE (
 A7 @AHF (
 A7 @ty3 (
 A7 @ty4 (
 A7 @ty5 (
 A7 @A5J (
 A7 @A5K (
 A7 @AAN (
 A7 @A5L (
 A7 @AAX (
 A7 @AAd (
 A7 @AAj (
 A7 @AAp (
 A7 @AAv (
 A7 @AB1 (
 A7 @AB7 (
 A7 @ABD (
 A7 @ABK (
 A7 @ABQ (
 A7 @A1s (
 A7 @A1y (
 A7 @A24 (
 A7 @A2A (
 A7 @A2G (
 A7 @A2M (
 A7 @A2S (
 A7 @kn3 (
 A7 @st3 (
 A7 @sz3 (
 A7 @zr3 (
 A7 @kn4 (
 A7 @st4 (
 A7 @sz4 (
 A7 @zr4 (
 A7 @kn5 (
 A7 @st5 (
 A7 @sz5 (
 A7 @zr5 (
 A7 @AAD (
 A7 @AAE (
 A7 @AAH (
 A7 @AAF (
 A7 @AAI (
 A7 @AAJ (
 A7 @AAM (
 A7 @AAK (
 A7 @AAO (
 A7 @AAP (
 A7 @AAS (
 A7 @AAQ (
 A7 @AAT (
 A7 @AAU (
 A7 @A15 (
 A7 @AAV (
 A7 @AAY (
 A7 @AAZ (
 A7 @AAc (
 A7 @AAa (
 A7 @AAe (
 A7 @AAf (
 A7 @AAi (
 A7 @AAg (
 A7 @AAk (
 A7 @AAl (
 A7 @AAo (
 A7 @AAm (
 A7 @AAq (
 A7 @AAr (
 A7 @AAu (
 A7 @AAs (
 A7 @AAw (
 A7 @AAx (
 A7 @AB0 (
 A7 @AAy (
 A7 @AB2 (
 A7 @AB3 (
 A7 @AB6 (
 A7 @AB4 (
 A7 @AB8 (
 A7 @AB9 (
 A7 @ABC (
 A7 @ABA (
 A7 @ABE (
 A7 @ABF (
 A7 @ABJ (
 A7 @ABG (
 A7 @ABL (
 A7 @ABM (
 A7 @ABP (
 A7 @ABN (
 A7 @ABR (
 A7 @ABS (
 A7 @ABV (
 A7 @ABT (
 A7 @A1t (
 A7 @A1u (
 A7 @A1x (
 A7 @A1v (
 A7 @A1z (
 A7 @A20 (
 A7 @A23 (
 A7 @A21 (
 A7 @A25 (
 A7 @A26 (
 A7 @A29 (
 A7 @A27 (
 A7 @A2B (
 A7 @A2C (
 A7 @A2F (
 A7 @A2D (
 A7 @A2H (
 A7 @A2I (
 A7 @A2L (
 A7 @A2J (
 A7 @A2N (
 A7 @A2O (
 A7 @A2R (
 A7 @A2P (
 A7 @A2T (
 A7 @A2U (
 A7 @A2X (
 A7 @A2V (
 A7 @AAL (
 A7 @AAR (
 A7 @AAt (
 A7 @ABB (
 A7 @y9 (
 A7 @yA (
 A7 @yB (
 A7 @yC (
 A7 @zo3 (
 A7 @zo4 (
 A7 @zo5 (
 A7 @AAG (
 A7 @AAW (
 A7 @AAb (
 A7 @AAh (
 A7 @AAn (
 A7 @AAz (
 A7 @AB5 (
 A7 @ABH (
 A7 @ABO (
 A7 @ABU (
 A7 @A1w (
 A7 @A22 (
 A7 @A28 (
 A7 @A2E (
 A7 @A2K (
 A7 @A2Q (
 A7 @A2W (
 A7 @le3 (
 A7 @le4 (
 A7 @le5 (
 A7 @le6 (
 A7 @le7 (
 A7 @le8 (
 A7 @le9 (
 A7 @ABW (
 A7 @ABX (
 A7 @ABY (
 A7 @ABZ (
 A7 @ABa (
 A7 @ABb (
 A7 @ABc (
 A7 @ABd (
 A7 @ABe (
 A7 @ABf (
 A7 @ABg (
 A7 @ABh (
 A7 @ABi (
 A7 @ABj (
 A7 @ABk (
 A7 @ABl (
 A7 @ABm (
 A7 @ABn (
 A7 @ABo (
 A7 @ABp (
 A7 @ABq (
 A7 @ABr (
 A7 @ABs (
 A7 @ABt (
 A7 @ABu (
 A7 @ABv (
 A7 @ABw (
 A7 @ABx (
 A7 @ABy (
 A7 @ABz (
 A7 @AC0 (
 A7 @AC1 (
 A7 @AC2 (
 A7 @AC3 (
 A7 @AC4 (
 A7 @AC5 (
 A7 @AC6 (
 A7 @AC7 (
 A7 @AC8 (
 A7 @AC9 (
 A7 @ACA (
 A7 @ACB (
 A7 @A16 (
 A7 @ACC (
 A7 @ACD (
 A7 @ACE (
 A7 @ACF (
 A7 @ACG (
 A7 @ACH (
 A7 @ACI (
 A7 @ACJ (
 A7 @ACK (
 A7 @ACM (
 A7 @ACN (
 A7 @A5M (
 A7 @ACO (
 A7 @ACP (
 A7 @ACQ (
 A7 @ACR (
 A7 @ACS (
 A7 @ACT (
 A7 @ACU (
 A7 @ACV (
 A7 @ACW (
 A7 @A5N (
 A7 @ACX (
 A7 @ACY (
 A7 @ACZ (
 A7 @ACa (
 A7 @ACb (
 A7 @ACc (
 A7 @ACd (
 A7 @A5O (
 A7 @ACe (
 A7 @ACf (
 A7 @ACg (
 A7 @ACh (
 A7 @ACi (
 A7 @ACj (
 A7 @ACk (
 A7 @ACl (
 A7 @ACm (
 A7 @ACn (
 A7 @ACo (
 A7 @ACp (
 A7 @A5P (
 A7 @ACq (
 A7 @ACr (
 A7 @ACs (
 A7 @ACt (
 A7 @A2Y (
 A7 @A2Z (
 A7 @A2a (
 A7 @A2b (
 A7 @A2c (
 A7 @A2d (
 A7 @A2e (
 A7 @A2f (
 A7 @A2g (
 A7 @A2h (
 A7 @A2i (
 A7 @A2j (
 A7 @A2k (
 A7 @A2l (
 A7 @A2m (
 A7 @A2n (
 A7 @A2o (
 A7 @A2p (
 A7 @A2q (
 A7 @A2r (
 A7 @A2s (
 A7 @A2t (
 A7 @A2u (
 A7 @A2v (
 A7 @A2w (
 A7 @A2x (
 A7 @A2y (
 A7 @A2z (
 A7 @A30 (
 A7 @A31 (
 A7 @A32 (
 A7 @A33 (
 A7 @A34 (
 A7 @A35 (
 A7 @A36 (
 A7 @A37 (
 A7 @A38 (
 A7 @A39 (
 A7 @A3A (
 A7 @A3B (
 A7 @A3C (
 A7 @A3D (
 A7 @A3E (
 A7 @A3F (
 A7 @A3G (
 A7 @A3H (
 A7 @A3I (
 A7 @A3J (
 A7 @A3K (
 A7 @A3L (
 A7 @A3M (
 A7 @A3N (
 A7 @A3O (
 A7 @A3P (
 A7 @A3Q (
 A7 @A3R (
 A7 @A3S (
 A7 @A3T (
 A7 @A3U (
 A7 @A3V (
 A7 @A3W (
 A7 @A3X (
 A7 @A3Y (@A3Z))))))))))))))))))))))))))))))))))))))))))))))))))))))))))))))))))))))))))))))))))))))))))))))))))))))))))))))))))))))))))))))))))))))))))))))))))))))))))))))))))))))))))))))))))))))))))))))))))))))))))))))))))))))))))))))))))))))))))))))))))))))))))))))))))))))))))))))))))))))))))))))))))))))))))))))))))))))))))
theorem A1B(n:Int)(h:0≤n∧n<1099511627776):Y.call 98 [.konst (.slice none 0 0),.int .i64 n] []=some (.own 3 [],[]):=Dv.Sys.call_base (F5<|lK 98 3 n h)
theorem pq(zs:AL)(h:zs.length<1099511627776):Y.call 125 [.clo 141 [.cptr [.sl 3 (AV (D.int .i64) zs)]]] []=some (.own 3 (AV (D.int .i64) (ER zs)),[]):=Dv.Sys.call_base (F5<|F5<|F5<|(aJ 125 141 3 zs h))
theorem uh(xss:AO)(h:xss.length<4611686018427387904)(h2: ∀x∈xss,x.length≤9223372036854775807):Y.call 102 [.vw [100000] 0 0,.clo 64 []] [.own 27 (AV (fun x=> .own 3 (AV (D.int .i64) x)) xss)]=some (.tup [],[.own 27 (AV (fun x=> .own 3 (AV (D.int .i64) x)) (F6 xss))]):=Dv.Sys.call_base (F5<|F5<|(fF 102 64 27 3 xss h h2))
theorem uj(xss:AO)(h:xss.length≤9223372036854775807)(h2: ∀x∈xss,x.length≤9223372036854775807):Y.call 103 [.vw [100000] 0 0,.clo 104 []] [.own 27 (AV (fun x=> .own 3 (AV (D.int .i64) x)) xss)]=some (.own 27 (AV (fun x=> .own 3 (AV (D.int .i64) x)) (dedL xss)),[.undef]):=Dv.Sys.call_base (F5<|(fH 103 104 27 3 xss h h2))
theorem A1C(zs:AL)(i j:Int)(h:0<zs.length∧0≤i∧i≤j∧j≤(zs.length:Int)):Y.call 110 [.vw [100000] 0 0,.int .i64 i,.int .i64 j] [.own 3 (AV (D.int .i64) zs)]=some (.own 3 (AV (D.int .i64) (TN zs i.toNat j.toNat)),[.undef]):=Dv.Sys.call_base (pV 110 3 zs i j h)
theorem fI(zs:AL)(h:zs.length<4611686018427387904):Y.call 68 [.vw [100000] 0 0] [.own 3 (AV (D.int .i64) zs)]=some (.tup [],[.own 3 (AV (D.int .i64) (ER zs))]):=Dv.Sys.call_base (F5<|F5<|F5<|F5<|(lI 68 3 zs h))
theorem ul(xs:List D)(h:xs.length<1099511627776)(hs:xs.all Dn=true)(ho:Am xs=false)(hf:(ET (.own 3 xs)).isSome=true):Y.call 106 [.sl 3 xs] []=some (.own 3 xs,[]):=by
 cases xs with
 |nil=>exact Dv.Sys.call_base rfl
 |cons x xs=>
  refine AZ (Y:=Y) rfl Tryz.func106 A3a rC ?_;show CG Y.env yD (FX Ah 0 [ResultVar.tmp 2] _) _
  unfold yD;have h0:0+(x::xs).length<1099511627776:=by omega
  simp only [Ji,Mt]at h0;simp only [Xo,qp]at hs ho;simp only [↓AR,Bd,ACv,implies_true,Cs,Pw,Option.isSome_some,↓reduceIte,Nat.reduceEqDiff,Nat.reduceLT,Nat.reduceLeDiff,Nat.reduceAdd,Nat.reduceMul,Nat.reduceMod,Nat.reduceSub,List.contains_cons,List.contains_nil,Nat.reduceBEq,List.getD_cons_zero,List.getD_cons_succ,List.getD_nil,Ji,Re,List.size_toArray,List.toList_toArray,List.zip_cons_cons,List.zip_nil_left,Pv,RP,Xm,RQ,List.map_nil,mq,List.replicate_zero,List.set_cons_zero,jP,List.set_set,Xo,List.any_cons,List.any_nil,List.all_nil,Q9,VZ,List.getElem?_nil,List.range_zero,beq_self_eq_true,Int.reduceLE,Int.reduceLT,Int.reduceEq,Int.reduceSub,Int.reduceAdd,Int.reduceToNat,Int.reduceNeg,Mt,h0,hs,ho];simp only [A1n,qw]at hf;rw [if_pos hf]
set_option linter.defProp false in
def AU:=A7 Bd (A7 A5I (A7 xc2 (A7 Da ACv)))
abbrev Aw:AL→D:=fun x=>D.sl 3 (AV (D.int .i64) x)
abbrev KQ:AL→D:=fun x=>D.own 3 (AV (D.int .i64) x)
abbrev Cr:Op:= .assign (.const (.bool false))
abbrev Ev:Op:= .assign (.const (.slice none 0 0))
abbrev Kv:Operand:= .const (.bool true)
abbrev U6:Op:= .assign (.const (.int .i64 (-1)))
abbrev OL:Operand:= .const (.bool false)
abbrev um:Op:= .fieldAddr 26 (tK 1) 0
end Go.Proofs.YtjhjkfoabhplfaaGreat
