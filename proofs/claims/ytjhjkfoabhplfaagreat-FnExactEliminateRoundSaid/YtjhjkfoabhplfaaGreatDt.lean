/- The types of this seat as data, and the system of its calls. Conditions: none. -/
import Derived.Test.YtjhjkfoabhplfaaGreatRows
import Derived.Test.YtjhjkfoabhplfaaGreatL6
import Derived.Test.YtjhjkfoabhplfaaGreatSv
import Derived.Test.YtjhjkfoabhplfaaGreatSf
import Derived.Test.YtjhjkfoabhplfaaGreatCf
import Derived.Test.YtjhjkfoabhplfaaGreatSh
import Derived.KernelRfl
namespace Go.Proofs.YtjhjkfoabhplfaaGreat
open Go Dv
set_option linter.unusedSimpArgs false
set_option maxRecDepth 100000
def tab:List Ty:=[.other,.func,.int .i64,.int .i64,.bool,.int .u8,.int .u8,.struct [2,3,4,6],.struct [2,3,4,6],.string,.string,.string,.int .u64,.struct [9,12],.struct [9,12],.ptr,.ptr,.ptr,.struct [17],.struct [17],.other,.int .i32,.slice 27,.struct [3,3,22,22],.struct [3,3,22,22],.func,.struct [3,3,22,22],.slice 3,.other,.func,.func,.func,.func,.func,.func,.func,.other,.func,.func,.func,.func,.func,.func,.func,.func,.func,.other,.func,.func,.other,.func,.func,.func,.slice 4,.struct [3,3,22,22,53],.struct [3,3,22,22,53],.func,.func,.ptr,.func,.func,.func,.func,.func,.func,.func,.func,.func,.func,.func,.func,.func,.other,.func,.func,.func,.func,.func,.struct [3,3,22,22,27],.struct [3,3,22,22,27],.func,.func,.func,.func,.func,.func,.func,.func,.func,.func,.func,.int .u64,.func,.func,.func,.func,.func,.func,.func,.func,.int .i64,.other,.func,.func,.func,.func,.int .u32,.func,.int .u64,.func,.func,.func,.func,.func,.func,.int .u64,.func,.func,.func,.ptr,.func,.func,.func,.func,.func,.func,.ptr,.other,.func,.func,.func,.func,.func,.func,.struct [17,17,17,9],.struct [17,17,17,9],.other,.other,.other,.func,.int .u8,.int .u8,.func,.ptr,.int .i32,.int .i32,.struct [12,12,106,140,5,5,141,142,143,144,145],.struct [12,12,106,140,5,5,141,142,143,144,145]]
def nst:List (TypeId×List (Nat×TypeId)):=[(54,[(0,26),(4,53)]),(55,[(0,26),(4,53)]),(78,[(0,26),(4,27)]),(79,[(0,26),(4,27)])]
def Ab:Tys:=wu tab nst
def lends(f:FuncId):Bool:=[12,13,27,68,69,71,72,102,103,110].contains f
theorem ty1:Ab.ty 1= .func:=nr rfl
theorem ty2:Ab.ty 2= .int .i64:=nr rfl
theorem ty3:Ab.ty 3= .int .i64:=nr rfl
theorem kn3:Ab.known 3=true:=nr rfl
theorem st3:Ab.isStruct 3=false:=nr rfl
theorem zr3:Ab.zeros 3=[.int .i64 0]:=nr rfl
theorem zo3:Ab.zero1 3= .int .i64 0:=nr rfl
theorem sz3:Ab.size 3=1:=nr rfl
theorem ty4:Ab.ty 4= .bool:=nr rfl
theorem kn4:Ab.known 4=true:=nr rfl
theorem st4:Ab.isStruct 4=false:=nr rfl
theorem zr4:Ab.zeros 4=[.bool false]:=nr rfl
theorem zo4:Ab.zero1 4= .bool false:=nr rfl
theorem sz4:Ab.size 4=1:=nr rfl
theorem ty5:Ab.ty 5= .int .u8:=nr rfl
theorem kn5:Ab.known 5=true:=nr rfl
theorem st5:Ab.isStruct 5=false:=nr rfl
theorem zr5:Ab.zeros 5=[.int .u8 0]:=nr rfl
theorem zo5:Ab.zero1 5= .int .u8 0:=nr rfl
theorem sz5:Ab.size 5=1:=nr rfl
theorem ty6:Ab.ty 6= .int .u8:=nr rfl
theorem ty7:Ab.ty 7= .struct [2,3,4,6]:=nr rfl
theorem ty8:Ab.ty 8= .struct [2,3,4,6]:=nr rfl
theorem ty9:Ab.ty 9= .string:=nr rfl
theorem APN:Ab.ty 10= .string:=nr rfl
theorem APO:Ab.ty 11= .string:=nr rfl
theorem APP:Ab.ty 12= .int .u64:=nr rfl
theorem APQ:Ab.ty 13= .struct [9,12]:=nr rfl
theorem APR:Ab.ty 14= .struct [9,12]:=nr rfl
theorem APS:Ab.ty 15= .ptr:=nr rfl
theorem APT:Ab.ty 16= .ptr:=nr rfl
theorem APU:Ab.ty 17= .ptr:=nr rfl
theorem APV:Ab.ty 18= .struct [17]:=nr rfl
theorem APW:Ab.ty 19= .struct [17]:=nr rfl
theorem APX:Ab.ty 21= .int .i32:=nr rfl
theorem A74:Ab.ty 22= .slice 27:=nr rfl
theorem ACI:Ab.known 22=true:=nr rfl
theorem ACJ:Ab.isStruct 22=false:=nr rfl
theorem ACK:Ab.zeros 22=[.own 27 []]:=nr rfl
theorem ACM:Ab.zero1 22= .own 27 []:=nr rfl
theorem ACN:Ab.size 22=1:=nr rfl
theorem APY:Ab.ty 23= .struct [3,3,22,22]:=nr rfl
theorem A75:Ab.ty 24= .struct [3,3,22,22]:=nr rfl
theorem ACO:Ab.known 24=true:=nr rfl
theorem ACP:Ab.isStruct 24=true:=nr rfl
theorem ACQ:Ab.zeros 24=[.int .i64 0,.int .i64 0,.own 27 [],.own 27 []]:=nr rfl
theorem ACR:Ab.nest 24=none:=nr rfl
theorem ACS:Ab.size 24=4:=nr rfl
theorem APZ:Ab.ty 25= .func:=nr rfl
theorem ACT:Ab.ty 26= .struct [3,3,22,22]:=nr rfl
theorem ACU:Ab.known 26=true:=nr rfl
theorem ACV:Ab.isStruct 26=true:=nr rfl
theorem ACW:Ab.zeros 26=[.int .i64 0,.int .i64 0,.own 27 [],.own 27 []]:=nr rfl
theorem ACX:Ab.nest 26=none:=nr rfl
theorem ACY:Ab.size 26=4:=nr rfl
theorem A76:Ab.ty 27= .slice 3:=nr rfl
theorem ACZ:Ab.known 27=true:=nr rfl
theorem ACa:Ab.isStruct 27=false:=nr rfl
theorem ACb:Ab.zeros 27=[.own 3 []]:=nr rfl
theorem ACc:Ab.zero1 27= .own 3 []:=nr rfl
theorem A2s:Ab.size 27=1:=nr rfl
theorem APa:Ab.ty 29= .func:=nr rfl
theorem APb:Ab.ty 30= .func:=nr rfl
theorem APc:Ab.ty 31= .func:=nr rfl
theorem ACd:Ab.ty 32= .func:=nr rfl
theorem ACe:Ab.known 32=true:=nr rfl
theorem ACf:Ab.isStruct 32=false:=nr rfl
theorem ACg:Ab.zeros 32=[.konst .nilFunc]:=nr rfl
theorem ACh:Ab.zero1 32= .konst .nilFunc:=nr rfl
theorem ACi:Ab.size 32=1:=nr rfl
theorem APd:Ab.ty 33= .func:=nr rfl
theorem APe:Ab.ty 34= .func:=nr rfl
theorem APf:Ab.ty 35= .func:=nr rfl
theorem APg:Ab.ty 37= .func:=nr rfl
theorem APh:Ab.ty 38= .func:=nr rfl
theorem APi:Ab.ty 39= .func:=nr rfl
theorem APj:Ab.ty 40= .func:=nr rfl
theorem APk:Ab.ty 41= .func:=nr rfl
theorem APl:Ab.ty 42= .func:=nr rfl
theorem APm:Ab.ty 43= .func:=nr rfl
theorem APn:Ab.ty 44= .func:=nr rfl
theorem APo:Ab.ty 45= .func:=nr rfl
theorem APp:Ab.ty 47= .func:=nr rfl
theorem APq:Ab.ty 48= .func:=nr rfl
theorem APr:Ab.ty 50= .func:=nr rfl
theorem APs:Ab.ty 51= .func:=nr rfl
theorem ACj:Ab.ty 52= .func:=nr rfl
theorem ACk:Ab.known 52=true:=nr rfl
theorem ACl:Ab.isStruct 52=false:=nr rfl
theorem ACm:Ab.zeros 52=[.konst .nilFunc]:=nr rfl
theorem ACn:Ab.zero1 52= .konst .nilFunc:=nr rfl
theorem ACo:Ab.size 52=1:=nr rfl
theorem ACp:Ab.ty 53= .slice 4:=nr rfl
theorem ACq:Ab.known 53=true:=nr rfl
theorem ACr:Ab.isStruct 53=false:=nr rfl
theorem ACs:Ab.zeros 53=[.own 4 []]:=nr rfl
theorem ACt:Ab.zero1 53= .own 4 []:=nr rfl
theorem ACu:Ab.size 53=1:=nr rfl
theorem APt:Ab.ty 54= .struct [3,3,22,22,53]:=nr rfl
theorem ACv:Ab.ty 55= .struct [3,3,22,22,53]:=nr rfl
theorem ACw:Ab.known 55=true:=nr rfl
theorem ACx:Ab.isStruct 55=true:=nr rfl
theorem ACy:Ab.zeros 55=[.int .i64 0,.int .i64 0,.own 27 [],.own 27 [],.own 4 []]:=nr rfl
theorem ACz:Ab.nest 55=some [(0,26),(4,53)]:=nr rfl
theorem A0D:Ab.foff 55 0=some 0:=nr rfl
theorem A0E:Ab.foff 55 1=some 4:=nr rfl
theorem AD0:Ab.size 55=5:=nr rfl
theorem APu:Ab.ty 56= .func:=nr rfl
theorem APv:Ab.ty 57= .func:=nr rfl
theorem AD1:Ab.ty 58= .ptr:=nr rfl
theorem AD2:Ab.known 58=true:=nr rfl
theorem AD3:Ab.isStruct 58=false:=nr rfl
theorem AD4:Ab.zeros 58=[.konst (.pointer none)]:=nr rfl
theorem AD5:Ab.zero1 58= .konst (.pointer none):=nr rfl
theorem AD6:Ab.size 58=1:=nr rfl
theorem APw:Ab.ty 59= .func:=nr rfl
theorem APx:Ab.ty 60= .func:=nr rfl
theorem APy:Ab.ty 61= .func:=nr rfl
theorem AD7:Ab.ty 62= .func:=nr rfl
theorem AD8:Ab.known 62=true:=nr rfl
theorem AD9:Ab.isStruct 62=false:=nr rfl
theorem ADA:Ab.zeros 62=[.konst .nilFunc]:=nr rfl
theorem ADB:Ab.zero1 62= .konst .nilFunc:=nr rfl
theorem ADC:Ab.size 62=1:=nr rfl
theorem APz:Ab.ty 63= .func:=nr rfl
theorem AQ0:Ab.ty 64= .func:=nr rfl
theorem AQ1:Ab.ty 65= .func:=nr rfl
theorem AQ2:Ab.ty 66= .func:=nr rfl
theorem AQ3:Ab.ty 67= .func:=nr rfl
theorem AQ4:Ab.ty 68= .func:=nr rfl
theorem AQ5:Ab.ty 69= .func:=nr rfl
theorem AQ6:Ab.ty 70= .func:=nr rfl
theorem AQ7:Ab.ty 71= .func:=nr rfl
theorem AQ8:Ab.ty 73= .func:=nr rfl
theorem AQ9:Ab.ty 74= .func:=nr rfl
theorem AQA:Ab.ty 75= .func:=nr rfl
theorem AQB:Ab.ty 76= .func:=nr rfl
theorem AQC:Ab.ty 77= .func:=nr rfl
theorem AQD:Ab.ty 78= .struct [3,3,22,22,27]:=nr rfl
theorem ADE:Ab.ty 79= .struct [3,3,22,22,27]:=nr rfl
theorem ADF:Ab.known 79=true:=nr rfl
theorem ADG:Ab.isStruct 79=true:=nr rfl
theorem ADH:Ab.zeros 79=[.int .i64 0,.int .i64 0,.own 27 [],.own 27 [],.own 3 []]:=nr rfl
theorem ADI:Ab.nest 79=some [(0,26),(4,27)]:=nr rfl
theorem A0F:Ab.foff 79 0=some 0:=nr rfl
theorem A0G:Ab.foff 79 1=some 4:=nr rfl
theorem ADJ:Ab.size 79=5:=nr rfl
theorem AQE:Ab.ty 80= .func:=nr rfl
theorem AQF:Ab.ty 81= .func:=nr rfl
theorem AQG:Ab.ty 82= .func:=nr rfl
theorem AQH:Ab.ty 83= .func:=nr rfl
theorem AQI:Ab.ty 84= .func:=nr rfl
theorem AQJ:Ab.ty 85= .func:=nr rfl
theorem AQK:Ab.ty 86= .func:=nr rfl
theorem ADK:Ab.ty 87= .func:=nr rfl
theorem ADL:Ab.known 87=true:=nr rfl
theorem ADM:Ab.isStruct 87=false:=nr rfl
theorem ADN:Ab.zeros 87=[.konst .nilFunc]:=nr rfl
theorem ADO:Ab.zero1 87= .konst .nilFunc:=nr rfl
theorem ADP:Ab.size 87=1:=nr rfl
theorem AQL:Ab.ty 88= .func:=nr rfl
theorem AQM:Ab.ty 89= .func:=nr rfl
theorem AQN:Ab.ty 90= .func:=nr rfl
theorem ADQ:Ab.ty 91= .int .u64:=nr rfl
theorem ADR:Ab.known 91=true:=nr rfl
theorem ADS:Ab.isStruct 91=false:=nr rfl
theorem ADT:Ab.zeros 91=[.int .u64 0]:=nr rfl
theorem ADU:Ab.zero1 91= .int .u64 0:=nr rfl
theorem ADV:Ab.size 91=1:=nr rfl
theorem AQO:Ab.ty 92= .func:=nr rfl
theorem AQP:Ab.ty 93= .func:=nr rfl
theorem AQQ:Ab.ty 94= .func:=nr rfl
theorem AQR:Ab.ty 95= .func:=nr rfl
theorem ADW:Ab.ty 96= .func:=nr rfl
theorem ADX:Ab.known 96=true:=nr rfl
theorem ADY:Ab.isStruct 96=false:=nr rfl
theorem ADZ:Ab.zeros 96=[.konst .nilFunc]:=nr rfl
theorem ADa:Ab.zero1 96= .konst .nilFunc:=nr rfl
theorem ADb:Ab.size 96=1:=nr rfl
theorem AQS:Ab.ty 97= .func:=nr rfl
theorem AQT:Ab.ty 98= .func:=nr rfl
theorem AQU:Ab.ty 99= .func:=nr rfl
theorem A3d:Ab.ty 100= .int .i64:=nr rfl
theorem A3e:Ab.known 100=true:=nr rfl
theorem A3f:Ab.isStruct 100=false:=nr rfl
theorem A3g:Ab.zeros 100=[.int .i64 0]:=nr rfl
theorem A3h:Ab.zero1 100= .int .i64 0:=nr rfl
theorem A3i:Ab.size 100=1:=nr rfl
theorem AN6:Ab.ty 102= .func:=nr rfl
theorem AN7:Ab.ty 103= .func:=nr rfl
theorem AN8:Ab.ty 104= .func:=nr rfl
theorem AN9:Ab.ty 105= .func:=nr rfl
theorem A3j:Ab.ty 106= .int .u32:=nr rfl
theorem A3k:Ab.known 106=true:=nr rfl
theorem A3l:Ab.isStruct 106=false:=nr rfl
theorem A3m:Ab.zeros 106=[.int .u32 0]:=nr rfl
theorem A3n:Ab.zero1 106= .int .u32 0:=nr rfl
theorem A3o:Ab.size 106=1:=nr rfl
theorem ANA:Ab.ty 107= .func:=nr rfl
theorem A3p:Ab.ty 108= .int .u64:=nr rfl
theorem A3q:Ab.known 108=true:=nr rfl
theorem A3r:Ab.isStruct 108=false:=nr rfl
theorem A3s:Ab.zeros 108=[.int .u64 0]:=nr rfl
theorem A3t:Ab.zero1 108= .int .u64 0:=nr rfl
theorem A3u:Ab.size 108=1:=nr rfl
theorem ANB:Ab.ty 109= .func:=nr rfl
theorem ANC:Ab.ty 110= .func:=nr rfl
theorem ANE:Ab.ty 111= .func:=nr rfl
theorem A3v:Ab.ty 112= .func:=nr rfl
theorem A3w:Ab.known 112=true:=nr rfl
theorem A3x:Ab.isStruct 112=false:=nr rfl
theorem A3y:Ab.zeros 112=[.konst .nilFunc]:=nr rfl
theorem A3z:Ab.zero1 112= .konst .nilFunc:=nr rfl
theorem A40:Ab.size 112=1:=nr rfl
theorem A41:Ab.ty 113= .func:=nr rfl
theorem A42:Ab.known 113=true:=nr rfl
theorem A43:Ab.isStruct 113=false:=nr rfl
theorem A44:Ab.zeros 113=[.konst .nilFunc]:=nr rfl
theorem A45:Ab.zero1 113= .konst .nilFunc:=nr rfl
theorem A46:Ab.size 113=1:=nr rfl
theorem ANF:Ab.ty 114= .func:=nr rfl
theorem A47:Ab.ty 115= .int .u64:=nr rfl
theorem A48:Ab.known 115=true:=nr rfl
theorem A49:Ab.isStruct 115=false:=nr rfl
theorem A4A:Ab.zeros 115=[.int .u64 0]:=nr rfl
theorem A4B:Ab.zero1 115= .int .u64 0:=nr rfl
theorem A4C:Ab.size 115=1:=nr rfl
theorem ANG:Ab.ty 116= .func:=nr rfl
theorem ANH:Ab.ty 117= .func:=nr rfl
theorem ANI:Ab.ty 118= .func:=nr rfl
theorem A4D:Ab.ty 119= .ptr:=nr rfl
theorem A4E:Ab.known 119=true:=nr rfl
theorem A4F:Ab.isStruct 119=false:=nr rfl
theorem A4G:Ab.zeros 119=[.konst (.pointer none)]:=nr rfl
theorem A4H:Ab.zero1 119= .konst (.pointer none):=nr rfl
theorem A4I:Ab.size 119=1:=nr rfl
theorem ANJ:Ab.ty 120= .func:=nr rfl
theorem ANK:Ab.ty 121= .func:=nr rfl
theorem ANL:Ab.ty 122= .func:=nr rfl
theorem ANM:Ab.ty 123= .func:=nr rfl
theorem ANN:Ab.ty 124= .func:=nr rfl
theorem ANO:Ab.ty 125= .func:=nr rfl
theorem ANP:Ab.ty 126= .ptr:=nr rfl
theorem ANQ:Ab.ty 128= .func:=nr rfl
theorem ANR:Ab.ty 129= .func:=nr rfl
theorem ANT:Ab.ty 130= .func:=nr rfl
theorem ANU:Ab.ty 131= .func:=nr rfl
theorem ANV:Ab.ty 132= .func:=nr rfl
theorem ANW:Ab.ty 133= .func:=nr rfl
theorem ANX:Ab.ty 134= .struct [17,17,17,9]:=nr rfl
theorem ANZ:Ab.ty 135= .struct [17,17,17,9]:=nr rfl
theorem ANa:Ab.ty 139= .func:=nr rfl
theorem ANb:Ab.ty 140= .int .u8:=nr rfl
theorem ANc:Ab.ty 141= .int .u8:=nr rfl
theorem ANd:Ab.ty 142= .func:=nr rfl
theorem ANe:Ab.ty 143= .ptr:=nr rfl
theorem ANf:Ab.ty 144= .int .i32:=nr rfl
theorem ANg:Ab.ty 145= .int .i32:=nr rfl
theorem ANh:Ab.ty 146= .struct [12,12,106,140,5,5,141,142,143,144,145]:=nr rfl
theorem ANi:Ab.ty 147= .struct [12,12,106,140,5,5,141,142,143,144,145]:=nr rfl
theorem le3:lends 3=false:=nr rfl
theorem le4:lends 4=false:=nr rfl
theorem le5:lends 5=false:=nr rfl
theorem le6:lends 6=false:=nr rfl
theorem le7:lends 7=false:=nr rfl
theorem le8:lends 8=false:=nr rfl
theorem le9:lends 9=false:=nr rfl
theorem ADc:lends 10=false:=nr rfl
theorem ADd:lends 11=false:=nr rfl
theorem ADe:lends 12=true:=nr rfl
theorem ADf:lends 13=true:=nr rfl
theorem ADg:lends 14=false:=nr rfl
theorem ADh:lends 15=false:=nr rfl
theorem ADi:lends 16=false:=nr rfl
theorem ADj:lends 17=false:=nr rfl
theorem ADk:lends 18=false:=nr rfl
theorem ADl:lends 19=false:=nr rfl
theorem ADm:lends 20=false:=nr rfl
theorem ADn:lends 21=false:=nr rfl
theorem ADo:lends 22=false:=nr rfl
theorem ADp:lends 23=false:=nr rfl
theorem ADq:lends 24=false:=nr rfl
theorem ADr:lends 25=false:=nr rfl
theorem ADs:lends 26=false:=nr rfl
theorem ADt:lends 27=true:=nr rfl
theorem ADu:lends 28=false:=nr rfl
theorem ADv:lends 29=false:=nr rfl
theorem ADw:lends 30=false:=nr rfl
theorem ADx:lends 31=false:=nr rfl
theorem ADy:lends 32=false:=nr rfl
theorem ADz:lends 33=false:=nr rfl
theorem AE0:lends 34=false:=nr rfl
theorem AE1:lends 35=false:=nr rfl
theorem AE2:lends 36=false:=nr rfl
theorem AE3:lends 37=false:=nr rfl
theorem AE4:lends 38=false:=nr rfl
theorem AE5:lends 39=false:=nr rfl
theorem AE6:lends 40=false:=nr rfl
theorem AE7:lends 41=false:=nr rfl
theorem AE8:lends 42=false:=nr rfl
theorem A77:lends 43=false:=nr rfl
theorem AE9:lends 44=false:=nr rfl
theorem AEA:lends 45=false:=nr rfl
theorem AEB:lends 46=false:=nr rfl
theorem AEC:lends 47=false:=nr rfl
theorem AED:lends 48=false:=nr rfl
theorem AEE:lends 49=false:=nr rfl
theorem AEF:lends 50=false:=nr rfl
theorem AEG:lends 51=false:=nr rfl
theorem A2t:lends 52=false:=nr rfl
theorem AEH:lends 53=false:=nr rfl
theorem AEI:lends 54=false:=nr rfl
theorem AEJ:lends 55=false:=nr rfl
theorem AEK:lends 56=false:=nr rfl
theorem AEL:lends 57=false:=nr rfl
theorem AEM:lends 58=false:=nr rfl
theorem AEN:lends 59=false:=nr rfl
theorem AEO:lends 60=false:=nr rfl
theorem AEP:lends 61=false:=nr rfl
theorem AEQ:lends 62=false:=nr rfl
theorem AER:lends 63=false:=nr rfl
theorem A78:lends 64=false:=nr rfl
theorem AES:lends 65=false:=nr rfl
theorem AET:lends 66=false:=nr rfl
theorem AEU:lends 67=false:=nr rfl
theorem AEV:lends 68=true:=nr rfl
theorem AEW:lends 69=true:=nr rfl
theorem AEX:lends 70=false:=nr rfl
theorem AEY:lends 71=true:=nr rfl
theorem AEZ:lends 72=true:=nr rfl
theorem AEa:lends 73=false:=nr rfl
theorem A79:lends 74=false:=nr rfl
theorem AEb:lends 75=false:=nr rfl
theorem A7A:lends 76=false:=nr rfl
theorem AEc:lends 77=false:=nr rfl
theorem AEd:lends 78=false:=nr rfl
theorem AEe:lends 79=false:=nr rfl
theorem AEf:lends 80=false:=nr rfl
theorem AEg:lends 81=false:=nr rfl
theorem A7B:lends 82=false:=nr rfl
theorem AEh:lends 83=false:=nr rfl
theorem AEi:lends 84=false:=nr rfl
theorem AEj:lends 85=false:=nr rfl
theorem AEk:lends 86=false:=nr rfl
theorem AEl:lends 87=false:=nr rfl
theorem AEm:lends 88=false:=nr rfl
theorem AEn:lends 89=false:=nr rfl
theorem AEo:lends 90=false:=nr rfl
theorem AEp:lends 91=false:=nr rfl
theorem AEq:lends 92=false:=nr rfl
theorem AEr:lends 93=false:=nr rfl
theorem AEs:lends 94=false:=nr rfl
theorem A7C:lends 95=false:=nr rfl
theorem AEt:lends 96=false:=nr rfl
theorem AEu:lends 97=false:=nr rfl
theorem AEv:lends 98=false:=nr rfl
theorem AEw:lends 99=false:=nr rfl
theorem A4J:lends 100=false:=nr rfl
theorem A4K:lends 101=false:=nr rfl
theorem A4L:lends 102=true:=nr rfl
theorem A4M:lends 103=true:=nr rfl
theorem A4N:lends 104=false:=nr rfl
theorem A4O:lends 105=false:=nr rfl
theorem A4P:lends 106=false:=nr rfl
theorem A4Q:lends 107=false:=nr rfl
theorem A4R:lends 108=false:=nr rfl
theorem A4S:lends 109=false:=nr rfl
theorem A4T:lends 110=true:=nr rfl
theorem A4U:lends 111=false:=nr rfl
theorem A4V:lends 112=false:=nr rfl
theorem A4W:lends 113=false:=nr rfl
theorem A4X:lends 114=false:=nr rfl
theorem A4Y:lends 115=false:=nr rfl
theorem A4Z:lends 116=false:=nr rfl
theorem A4a:lends 117=false:=nr rfl
theorem A4b:lends 118=false:=nr rfl
theorem A4c:lends 119=false:=nr rfl
theorem A4d:lends 120=false:=nr rfl
theorem A4e:lends 121=false:=nr rfl
theorem A4f:lends 122=false:=nr rfl
theorem A4g:lends 123=false:=nr rfl
theorem A4h:lends 124=false:=nr rfl
theorem A4i:lends 125=false:=nr rfl
theorem A4j:lends 126=false:=nr rfl
theorem A4k:lends 127=false:=nr rfl
theorem A4l:lends 128=false:=nr rfl
theorem A4m:lends 129=false:=nr rfl
theorem A4n:lends 130=false:=nr rfl
theorem A4o:lends 131=false:=nr rfl
theorem A4p:lends 132=false:=nr rfl
theorem A4q:lends 133=false:=nr rfl
theorem A4r:lends 134=false:=nr rfl
theorem A4s:lends 135=false:=nr rfl
theorem A4t:lends 136=false:=nr rfl
theorem A4u:lends 137=false:=nr rfl
theorem A4v:lends 138=false:=nr rfl
theorem A4w:lends 139=false:=nr rfl
theorem A4x:lends 140=false:=nr rfl
theorem A4y:lends 141=false:=nr rfl
theorem A4z:lends 142=false:=nr rfl
theorem A50:lends 143=false:=nr rfl
theorem A51:lends 144=false:=nr rfl
theorem A52:lends 145=false:=nr rfl
theorem A53:lends 146=false:=nr rfl
theorem A54:lends 147=false:=nr rfl
theorem A55:lends 148=false:=nr rfl
theorem A56:lends 149=false:=nr rfl
theorem A57:lends 150=false:=nr rfl
theorem A58:lends 151=false:=nr rfl
theorem A59:lends 152=false:=nr rfl
theorem A5A:lends 153=false:=nr rfl
theorem A5B:lends 154=false:=nr rfl
theorem A5C:lends 155=false:=nr rfl
theorem A5D:lends 156=false:=nr rfl
theorem A5E:lends 157=false:=nr rfl
theorem A5F:lends 158=false:=nr rfl
theorem A5G:lends 159=false:=nr rfl
theorem A5H:lends 160=false:=nr rfl
theorem A5I:lends 161=false:=nr rfl
theorem A5J:lends 162=false:=nr rfl
theorem A5K:lends 163=false:=nr rfl
set_option maxRecDepth 100000 in
theorem A2u:Bu Tryz.prog Ab:=A5z (by kernel_rfl)
theorem mixed:Tryz.prog.follows .mixedOrders=true:=by kernel_rfl
noncomputable def Y0:Dv.Sys:={P:=Tryz.prog,T:=Ab,lends:=lends,base:=fun _ _ _=>none}
theorem AJN:Dv.Sys.Ok Y0:=⟨A2u,mixed,fun _ _ _ _ _ h=>by cases h⟩
theorem AJO(T:Tys)(s:St)(t:TypeId):ev T s t (.const .nilFunc)=some (.konst .nilFunc):=nr rfl
theorem AJP(T:Tys)(s:St)(t:TypeId):ev T s t (.const .nilIface)=some (.konst .nilIface):=nr rfl
theorem AJQ(T:Tys)(s:St)(t:TypeId):ev T s t (.const (.pointer none))=some (.konst (.pointer none)):=nr rfl
theorem y0T:Y0.T=Ab:=nr rfl
theorem y0L:Y0.lends=lends:=nr rfl
set_option maxRecDepth 10000 in
set_option linter.defProp false in
def AEx:=
 A7 @y0T (
 A7 @y0L (
 A7 @ty3 (
 A7 @ty4 (
 A7 @ty5 (
 A7 @A74 (
 A7 @A75 (
 A7 @ACT (
 A7 @A76 (
 A7 @ACd (
 A7 @ACj (
 A7 @ACp (
 A7 @ACv (
 A7 @AD1 (
 A7 @AD7 (
 A7 @ADE (
 A7 @ADK (
 A7 @ADQ (
 A7 @ADW (
 A7 @A3d (
 A7 @A3j (
 A7 @A3p (
 A7 @A3v (
 A7 @A41 (
 A7 @A47 (
 A7 @A4D (
 A7 @kn3 (
 A7 @st3 (
 A7 @sz3 (
 A7 @zr3 (
 A7 @kn4 (
 A7 @st4 (
 A7 @sz4 (
 A7 @zr4 (
 A7 @kn5 (
 A7 @st5 (
 A7 @sz5 (
 A7 @zr5 (
 A7 @ACI (
 A7 @ACJ (
 A7 @ACN (
 A7 @ACK (
 A7 @ACO (
 A7 @ACP (
 A7 @ACS (
 A7 @ACQ (
 A7 @ACU (
 A7 @ACV (
 A7 @ACY (
 A7 @ACW (
 A7 @ACZ (
 A7 @ACa (
 A7 @A2s (
 A7 @ACb (
 A7 @ACe (
 A7 @ACf (
 A7 @ACi (
 A7 @ACg (
 A7 @ACk (
 A7 @ACl (
 A7 @ACo (
 A7 @ACm (
 A7 @ACq (
 A7 @ACr (
 A7 @ACu (
 A7 @ACs (
 A7 @ACw (
 A7 @ACx (
 A7 @AD0 (
 A7 @ACy (
 A7 @AD2 (
 A7 @AD3 (
 A7 @AD6 (
 A7 @AD4 (
 A7 @AD8 (
 A7 @AD9 (
 A7 @ADC (
 A7 @ADA (
 A7 @ADF (
 A7 @ADG (
 A7 @ADJ (
 A7 @ADH (
 A7 @ADL (
 A7 @ADM (
 A7 @ADP (
 A7 @ADN (
 A7 @ADR (
 A7 @ADS (
 A7 @ADV (
 A7 @ADT (
 A7 @ADX (
 A7 @ADY (
 A7 @ADb (
 A7 @ADZ (
 A7 @A3e (
 A7 @A3f (
 A7 @A3i (
 A7 @A3g (
 A7 @A3k (
 A7 @A3l (
 A7 @A3o (
 A7 @A3m (
 A7 @A3q (
 A7 @A3r (
 A7 @A3u (
 A7 @A3s (
 A7 @A3w (
 A7 @A3x (
 A7 @A40 (
 A7 @A3y (
 A7 @A42 (
 A7 @A43 (
 A7 @A46 (
 A7 @A44 (
 A7 @A48 (
 A7 @A49 (
 A7 @A4C (
 A7 @A4A (
 A7 @A4E (
 A7 @A4F (
 A7 @A4I (
 A7 @A4G (
 A7 @ACR (
 A7 @ACX (
 A7 @ACz (
 A7 @ADI (
 A7 @A0D (
 A7 @A0E (
 A7 @A0F (
 A7 @A0G (
 A7 @zo3 (
 A7 @zo4 (
 A7 @zo5 (
 A7 @ACM (
 A7 @ACc (
 A7 @ACh (
 A7 @ACn (
 A7 @ACt (
 A7 @AD5 (
 A7 @ADB (
 A7 @ADO (
 A7 @ADU (
 A7 @ADa (
 A7 @A3h (
 A7 @A3n (
 A7 @A3t (
 A7 @A3z (
 A7 @A45 (
 A7 @A4B (
 A7 @A4H (
 A7 @le3 (
 A7 @le4 (
 A7 @le5 (
 A7 @le6 (
 A7 @le7 (
 A7 @le8 (
 A7 @le9 (
 A7 @ADc (
 A7 @ADd (
 A7 @ADe (
 A7 @ADf (
 A7 @ADg (
 A7 @ADh (
 A7 @ADi (
 A7 @ADj (
 A7 @ADk (
 A7 @ADl (
 A7 @ADm (
 A7 @ADn (
 A7 @ADo (
 A7 @ADp (
 A7 @ADq (
 A7 @ADr (
 A7 @ADs (
 A7 @ADt (
 A7 @ADu (
 A7 @ADv (
 A7 @ADw (
 A7 @ADx (
 A7 @ADy (
 A7 @ADz (
 A7 @AE0 (
 A7 @AE1 (
 A7 @AE2 (
 A7 @AE3 (
 A7 @AE4 (
 A7 @AE5 (
 A7 @AE6 (
 A7 @AE7 (
 A7 @AE8 (
 A7 @A77 (
 A7 @AE9 (
 A7 @AEA (
 A7 @AEB (
 A7 @AEC (
 A7 @AED (
 A7 @AEE (
 A7 @AEF (
 A7 @AEG (
 A7 @A2t (
 A7 @AEH (
 A7 @AEI (
 A7 @AEJ (
 A7 @AEK (
 A7 @AEL (
 A7 @AEM (
 A7 @AEN (
 A7 @AEO (
 A7 @AEP (
 A7 @AEQ (
 A7 @AER (
 A7 @A78 (
 A7 @AES (
 A7 @AET (
 A7 @AEU (
 A7 @AEV (
 A7 @AEW (
 A7 @AEX (
 A7 @AEY (
 A7 @AEZ (
 A7 @AEa (
 A7 @A79 (
 A7 @AEb (
 A7 @A7A (
 A7 @AEc (
 A7 @AEd (
 A7 @AEe (
 A7 @AEf (
 A7 @AEg (
 A7 @A7B (
 A7 @AEh (
 A7 @AEi (
 A7 @AEj (
 A7 @AEk (
 A7 @AEl (
 A7 @AEm (
 A7 @AEn (
 A7 @AEo (
 A7 @AEp (
 A7 @AEq (
 A7 @AEr (
 A7 @AEs (
 A7 @A7C (
 A7 @AEt (
 A7 @AEu (
 A7 @AEv (
 A7 @AEw (
 A7 @A4J (
 A7 @A4K (
 A7 @A4L (
 A7 @A4M (
 A7 @A4N (
 A7 @A4O (
 A7 @A4P (
 A7 @A4Q (
 A7 @A4R (
 A7 @A4S (
 A7 @A4T (
 A7 @A4U (
 A7 @A4V (
 A7 @A4W (
 A7 @A4X (
 A7 @A4Y (
 A7 @A4Z (
 A7 @A4a (
 A7 @A4b (
 A7 @A4c (
 A7 @A4d (
 A7 @A4e (
 A7 @A4f (
 A7 @A4g (
 A7 @A4h (
 A7 @A4i (
 A7 @A4j (
 A7 @A4k (
 A7 @A4l (
 A7 @A4m (
 A7 @A4n (
 A7 @A4o (
 A7 @A4p (
 A7 @A4q (
 A7 @A4r (
 A7 @A4s (
 A7 @A4t (
 A7 @A4u (
 A7 @A4v (
 A7 @A4w (
 A7 @A4x (
 A7 @A4y (
 A7 @A4z (
 A7 @A50 (
 A7 @A51 (
 A7 @A52 (
 A7 @A53 (
 A7 @A54 (
 A7 @A55 (
 A7 @A56 (
 A7 @A57 (
 A7 @A58 (
 A7 @A59 (
 A7 @A5A (
 A7 @A5B (
 A7 @A5C (
 A7 @A5D (
 A7 @A5E (
 A7 @A5F (
 A7 @A5G (
 A7 @A5H (
 A7 @A5I (
 A7 @A5J (@A5K))))))))))))))))))))))))))))))))))))))))))))))))))))))))))))))))))))))))))))))))))))))))))))))))))))))))))))))))))))))))))))))))))))))))))))))))))))))))))))))))))))))))))))))))))))))))))))))))))))))))))))))))))))))))))))))))))))))))))))))))))))))))))))))))))))))))))))))))))))))))))))))))))))))))))))))))))))))
def A0H:SC:= .seq (.ops [oX 2 (.assign (.const (.slice none 0 0))) 27]) (.seq (.seq (.ops [oM 3 0 27,oB 4 .eql 27 (tK 3) (.const (.slice none 0 0)) 27 4]) (.cond (tK 4) (.seq (.ops [oX 2 (.assign (.const (.slice none 0 0))) 27]) .ret) .skip)) (.seq (.ops [oX 5 (.buildSlice 27 0 #[]) 27,oM 6 0 27,oX 7 (.call ⟨(.builtin .append), #[(tK 5),(tK 6)], #[27,27]⟩) 27,oA 2 7 27]) .ret))
theorem ul:Tryz.f106.body.map (BI lends)=some A0H:=by kernel_rfl
theorem A5L:BR Tryz.f106 1=true:=by kernel_rfl
theorem sZ(A:Option Addr)(c:Nat):Y0.call 106 [.konst (.slice A 0 c)] []=some (.own 3 [],[]):=by
 refine AP (Y:=Y0) rfl Tryz.func106 A5L ul ?_;show BU Y0.env A0H (Du Ab 0 [ResultVar.tmp 2] _) _
 unfold A0H
 cases A<;>simp only [↓AB,BC,AEx,implies_true,Bl,QC,Option.isSome_some,↓reduceIte,Nat.reduceEqDiff,Nat.reduceLT,Nat.reduceLeDiff,Nat.reduceAdd,Nat.reduceMul,Nat.reduceMod,Nat.reduceSub,List.contains_cons,List.contains_nil,Nat.reduceBEq,List.getD_cons_zero,List.getD_cons_succ,List.getD_nil,JS,SB,List.size_toArray,List.toList_toArray,List.zip_cons_cons,List.zip_nil_left,O6,R5,WN,Rp,List.map_nil,qK,List.replicate_zero,List.set_cons_zero,lN,List.set_set,Xo,List.any_cons,List.any_nil,List.all_nil,QK,WL,List.getElem?_nil,List.range_zero,beq_self_eq_true,Int.reduceLE,Int.reduceLT,Int.reduceEq,Int.reduceSub,Int.reduceAdd,Int.reduceToNat,Int.reduceNeg,Option.isNone_none,Option.isNone_some]
theorem A2v:Dv.Good Tryz.prog Ab 106 [.sl 3 []] [] (.own 3 []) []:=ru kn3 (fun A c=>Dv.Sys.call_good AJN (sZ A c))
def A0I(f:FuncId)(a l:List D):Option (D×List D):=
 match f,a,l with
 |106,[.sl 3 []],[]=>some (.own 3 [],[])
 |_,_,_=>none
theorem A2w: ∀f a l r outs,A0I f a l=some (r,outs)→Dv.Good Tryz.prog Ab f a l r outs:=by
 intro f a l r outs h;unfold A0I at h
 split at h
 ·simp only [Option.some.injEq,Prod.mk.injEq]at h;obtain⟨rfl,rfl⟩:=h;exact A2v
 ·cases h
theorem A0J: ∀zs:AA,zs.length<4611686018427387904→Dv.Good Tryz.prog Ab 68 [.vw [100000] 0 0] [.own 3 (GR zs)] (.tup []) [.own 3 (GR (Dn zs))]:=fun zs h=>
 xE ⟨Tryz.f68,Tryz.func68,rfl,by decide⟩ sz3 (fun blk off cap zs w h1 h2 h3=>Tryz.slices_Sort_int blk off cap zs w h1 h2 h3) (fun p cap w=>Tryz.slices_Sort_int_none p cap w) zs h
theorem su: ∀zs:AA,zs.length<1099511627776→Dv.Good Tryz.prog Ab 125 [.clo 141 [.cptr [.sl 3 (GR zs)]]] [] (.own 3 (GR (Dn zs))) []:=fun zs h=>
 nk ⟨Tryz.f125,Tryz.func125,rfl,by decide⟩ sz3
  (fun p ad cap w h1 h2=>callsIn_wide.1 (Go.Proofs.sv.sorted_in 5 (Io _) p _ [] (by decide) (by decide) w h1 h2 (.inl ⟨ad,cap,rfl,rfl⟩)))
  (fun p b off cap zs w h0 h1 h2 h3 h4=>callsIn_wide.1 (Go.Proofs.sv.sorted_in 5 (Io _) p _ zs (by have:maxLen=9223372036854775807:=rfl;omega) (by omega) w h1 h2 (.inr ⟨b,off,cap,rfl,h3,h4⟩))) zs h
theorem xI: ∀xss:AL,xss.length<4611686018427387904→(∀x∈xss,x.length≤9223372036854775807)→Dv.Good Tryz.prog Ab 102 [.vw [100000] 0 0,.clo 64 []] [.own 27 (AJ (fun x=> .own 3 (AJ (D.int .i64) x)) xss)] (.tup []) [.own 27 (AJ (fun x=> .own 3 (AJ (D.int .i64) x)) (EX xss))]:=fun xss h h2=>
 sU ⟨Tryz.f102,Tryz.func102,rfl,by decide⟩ A2s sz3 Go.Proofs.sf.enters Go.Proofs.sf.compare Go.Proofs.sf.sorts (fun p cap fv w=>Tryz.slices_SortFunc_none (α:=Nat) p cap fv w) xss h h2
theorem xJ: ∀xss:AL,xss.length≤9223372036854775807→(∀x∈xss,x.length≤9223372036854775807)→Dv.Good Tryz.prog Ab 103 [.vw [100000] 0 0,.clo 104 []] [.own 27 (AJ (fun x=> .own 3 (AJ (D.int .i64) x)) xss)] (.own 27 (AJ (fun x=> .own 3 (AJ (D.int .i64) x)) (dedL xss))) [.undef]:=fun xss h h2=>
 sW ⟨Tryz.f103,Tryz.func103,rfl,by decide⟩ A2s sz3 Go.Proofs.ce.equal Go.Proofs.cf.compact Go.Proofs.cf.none_ xss h h2
theorem A2x: ∀(zs:AA) (i j:Nat),0<zs.length→i≤j→j≤zs.length→Dv.Good Tryz.prog Ab 110 [.vw [100000] 0 0,.int .i64 i,.int .i64 j] [.own 3 (GR zs)] (.own 3 (GR (U0 zs i j))) [.undef]:=fun zs i j h1 h2 h3=>
 ny ⟨Tryz.f110,Tryz.func110,rfl,by decide⟩ sz3 (fun blk off cap zs i j w h1 h2 h3 h4 h5=>Tryz.slices_Delete_int blk off cap i j zs w h1 h2 h3 h4 h5) zs i j h1 h2 h3
theorem sw: ∀n:Nat,n<1099511627776→Dv.Good Tryz.prog Ab 98 [.konst (.slice none 0 0),.int .i64 n] [] (.own 3 []) []:=fun n h=>
 sO (ρ:=Tryz.laysGrow98_ren) A2u Tryz.laysGrow98 ⟨Tryz.f98,Tryz.func98,rfl,by decide⟩ kn3 sz3 n h
noncomputable def Y:Dv.Sys:={P:=Tryz.prog,T:=Ab,lends:=lends,base:=QF (Sn 98 3) (QF (QF (QF (QF (QF A0I (Sm 68 3)) (Oy 125 141 3)) (Qd 102 64 27 3)) (Qe 103 104 27 3)) (VT 110 3))}
theorem yOk:Dv.Sys.Ok Y:=⟨A2u,mixed,Lb (bg sw) (Lb (Lb (Lb (Lb (Lb A2w (bZ A0J)) (Xy su)) (ZX xI)) (ZY xJ)) (iW A2x))⟩
theorem A0K:Ab.ty 900013= .other:=nr rfl
theorem yT:Y.T=Ab:=nr rfl
theorem yL:Y.lends=lends:=nr rfl
set_option maxRecDepth 10000 in
set_option linter.defProp false in
def AEy:=
 A7 @A0K (
 A7 @yT (
 A7 @yL (
 A7 @AJO (
 A7 @AJP (
 A7 @AJQ (
 A7 @ty3 (
 A7 @ty4 (
 A7 @ty5 (
 A7 @A74 (
 A7 @A75 (
 A7 @ACT (
 A7 @A76 (
 A7 @ACd (
 A7 @ACj (
 A7 @ACp (
 A7 @ACv (
 A7 @AD1 (
 A7 @AD7 (
 A7 @ADE (
 A7 @ADK (
 A7 @ADQ (
 A7 @ADW (
 A7 @A3d (
 A7 @A3j (
 A7 @A3p (
 A7 @A3v (
 A7 @A41 (
 A7 @A47 (
 A7 @A4D (
 A7 @kn3 (
 A7 @st3 (
 A7 @sz3 (
 A7 @zr3 (
 A7 @kn4 (
 A7 @st4 (
 A7 @sz4 (
 A7 @zr4 (
 A7 @kn5 (
 A7 @st5 (
 A7 @sz5 (
 A7 @zr5 (
 A7 @ACI (
 A7 @ACJ (
 A7 @ACN (
 A7 @ACK (
 A7 @ACO (
 A7 @ACP (
 A7 @ACS (
 A7 @ACQ (
 A7 @ACU (
 A7 @ACV (
 A7 @ACY (
 A7 @ACW (
 A7 @ACZ (
 A7 @ACa (
 A7 @A2s (
 A7 @ACb (
 A7 @ACe (
 A7 @ACf (
 A7 @ACi (
 A7 @ACg (
 A7 @ACk (
 A7 @ACl (
 A7 @ACo (
 A7 @ACm (
 A7 @ACq (
 A7 @ACr (
 A7 @ACu (
 A7 @ACs (
 A7 @ACw (
 A7 @ACx (
 A7 @AD0 (
 A7 @ACy (
 A7 @AD2 (
 A7 @AD3 (
 A7 @AD6 (
 A7 @AD4 (
 A7 @AD8 (
 A7 @AD9 (
 A7 @ADC (
 A7 @ADA (
 A7 @ADF (
 A7 @ADG (
 A7 @ADJ (
 A7 @ADH (
 A7 @ADL (
 A7 @ADM (
 A7 @ADP (
 A7 @ADN (
 A7 @ADR (
 A7 @ADS (
 A7 @ADV (
 A7 @ADT (
 A7 @ADX (
 A7 @ADY (
 A7 @ADb (
 A7 @ADZ (
 A7 @A3e (
 A7 @A3f (
 A7 @A3i (
 A7 @A3g (
 A7 @A3k (
 A7 @A3l (
 A7 @A3o (
 A7 @A3m (
 A7 @A3q (
 A7 @A3r (
 A7 @A3u (
 A7 @A3s (
 A7 @A3w (
 A7 @A3x (
 A7 @A40 (
 A7 @A3y (
 A7 @A42 (
 A7 @A43 (
 A7 @A46 (
 A7 @A44 (
 A7 @A48 (
 A7 @A49 (
 A7 @A4C (
 A7 @A4A (
 A7 @A4E (
 A7 @A4F (
 A7 @A4I (
 A7 @A4G (
 A7 @ACR (
 A7 @ACX (
 A7 @ACz (
 A7 @ADI (
 A7 @A0D (
 A7 @A0E (
 A7 @A0F (
 A7 @A0G (
 A7 @zo3 (
 A7 @zo4 (
 A7 @zo5 (
 A7 @ACM (
 A7 @ACc (
 A7 @ACh (
 A7 @ACn (
 A7 @ACt (
 A7 @AD5 (
 A7 @ADB (
 A7 @ADO (
 A7 @ADU (
 A7 @ADa (
 A7 @A3h (
 A7 @A3n (
 A7 @A3t (
 A7 @A3z (
 A7 @A45 (
 A7 @A4B (
 A7 @A4H (
 A7 @le3 (
 A7 @le4 (
 A7 @le5 (
 A7 @le6 (
 A7 @le7 (
 A7 @le8 (
 A7 @le9 (
 A7 @ADc (
 A7 @ADd (
 A7 @ADe (
 A7 @ADf (
 A7 @ADg (
 A7 @ADh (
 A7 @ADi (
 A7 @ADj (
 A7 @ADk (
 A7 @ADl (
 A7 @ADm (
 A7 @ADn (
 A7 @ADo (
 A7 @ADp (
 A7 @ADq (
 A7 @ADr (
 A7 @ADs (
 A7 @ADt (
 A7 @ADu (
 A7 @ADv (
 A7 @ADw (
 A7 @ADx (
 A7 @ADy (
 A7 @ADz (
 A7 @AE0 (
 A7 @AE1 (
 A7 @AE2 (
 A7 @AE3 (
 A7 @AE4 (
 A7 @AE5 (
 A7 @AE6 (
 A7 @AE7 (
 A7 @AE8 (
 A7 @A77 (
 A7 @AE9 (
 A7 @AEA (
 A7 @AEB (
 A7 @AEC (
 A7 @AED (
 A7 @AEE (
 A7 @AEF (
 A7 @AEG (
 A7 @A2t (
 A7 @AEH (
 A7 @AEI (
 A7 @AEJ (
 A7 @AEK (
 A7 @AEL (
 A7 @AEM (
 A7 @AEN (
 A7 @AEO (
 A7 @AEP (
 A7 @AEQ (
 A7 @AER (
 A7 @A78 (
 A7 @AES (
 A7 @AET (
 A7 @AEU (
 A7 @AEV (
 A7 @AEW (
 A7 @AEX (
 A7 @AEY (
 A7 @AEZ (
 A7 @AEa (
 A7 @A79 (
 A7 @AEb (
 A7 @A7A (
 A7 @AEc (
 A7 @AEd (
 A7 @AEe (
 A7 @AEf (
 A7 @AEg (
 A7 @A7B (
 A7 @AEh (
 A7 @AEi (
 A7 @AEj (
 A7 @AEk (
 A7 @AEl (
 A7 @AEm (
 A7 @AEn (
 A7 @AEo (
 A7 @AEp (
 A7 @AEq (
 A7 @AEr (
 A7 @AEs (
 A7 @A7C (
 A7 @AEt (
 A7 @AEu (
 A7 @AEv (
 A7 @AEw (
 A7 @A4J (
 A7 @A4K (
 A7 @A4L (
 A7 @A4M (
 A7 @A4N (
 A7 @A4O (
 A7 @A4P (
 A7 @A4Q (
 A7 @A4R (
 A7 @A4S (
 A7 @A4T (
 A7 @A4U (
 A7 @A4V (
 A7 @A4W (
 A7 @A4X (
 A7 @A4Y (
 A7 @A4Z (
 A7 @A4a (
 A7 @A4b (
 A7 @A4c (
 A7 @A4d (
 A7 @A4e (
 A7 @A4f (
 A7 @A4g (
 A7 @A4h (
 A7 @A4i (
 A7 @A4j (
 A7 @A4k (
 A7 @A4l (
 A7 @A4m (
 A7 @A4n (
 A7 @A4o (
 A7 @A4p (
 A7 @A4q (
 A7 @A4r (
 A7 @A4s (
 A7 @A4t (
 A7 @A4u (
 A7 @A4v (
 A7 @A4w (
 A7 @A4x (
 A7 @A4y (
 A7 @A4z (
 A7 @A50 (
 A7 @A51 (
 A7 @A52 (
 A7 @A53 (
 A7 @A54 (
 A7 @A55 (
 A7 @A56 (
 A7 @A57 (
 A7 @A58 (
 A7 @A59 (
 A7 @A5A (
 A7 @A5B (
 A7 @A5C (
 A7 @A5D (
 A7 @A5E (
 A7 @A5F (
 A7 @A5G (
 A7 @A5H (
 A7 @A5I (
 A7 @A5J (@A5K))))))))))))))))))))))))))))))))))))))))))))))))))))))))))))))))))))))))))))))))))))))))))))))))))))))))))))))))))))))))))))))))))))))))))))))))))))))))))))))))))))))))))))))))))))))))))))))))))))))))))))))))))))))))))))))))))))))))))))))))))))))))))))))))))))))))))))))))))))))))))))))))))))))))))))))))))))))))))
theorem A2y(n:Int)(h:0≤n∧n<1099511627776):Y.call 98 [.konst (.slice none 0 0),.int .i64 n] []=some (.own 3 [],[]):=Dv.Sys.call_base (EW<|nu 98 3 n h)
theorem tC(zs:AA)(h:zs.length<1099511627776):Y.call 125 [.clo 141 [.cptr [.sl 3 (AJ (D.int .i64) zs)]]] []=some (.own 3 (AJ (D.int .i64) (Dn zs)),[]):=Dv.Sys.call_base (EW<|EW<|EW<|(bf 125 141 3 zs h))
theorem xK(xss:AL)(h:xss.length<4611686018427387904)(h2: ∀x∈xss,x.length≤9223372036854775807):Y.call 102 [.vw [100000] 0 0,.clo 64 []] [.own 27 (AJ (fun x=> .own 3 (AJ (D.int .i64) x)) xss)]=some (.tup [],[.own 27 (AJ (fun x=> .own 3 (AJ (D.int .i64) x)) (EX xss))]):=Dv.Sys.call_base (EW<|EW<|(iV 102 64 27 3 xss h h2))
theorem xL(xss:AL)(h:xss.length≤9223372036854775807)(h2: ∀x∈xss,x.length≤9223372036854775807):Y.call 103 [.vw [100000] 0 0,.clo 104 []] [.own 27 (AJ (fun x=> .own 3 (AJ (D.int .i64) x)) xss)]=some (.own 27 (AJ (fun x=> .own 3 (AJ (D.int .i64) x)) (dedL xss)),[.undef]):=Dv.Sys.call_base (EW<|(iX 103 104 27 3 xss h h2))
theorem A2z(zs:AA)(i j:Int)(h:0<zs.length∧0≤i∧i≤j∧j≤(zs.length:Int)):Y.call 110 [.vw [100000] 0 0,.int .i64 i,.int .i64 j] [.own 3 (AJ (D.int .i64) zs)]=some (.own 3 (AJ (D.int .i64) (U0 zs i.toNat j.toNat)),[.undef]):=Dv.Sys.call_base (sV 110 3 zs i j h)
theorem iY(zs:AA)(h:zs.length<4611686018427387904):Y.call 68 [.vw [100000] 0 0] [.own 3 (AJ (D.int .i64) zs)]=some (.tup [],[.own 3 (AJ (D.int .i64) (Dn zs))]):=Dv.Sys.call_base (EW<|EW<|EW<|EW<|(ni 68 3 zs h))
theorem xM(xs:List D)(h:xs.length<1099511627776)(hs:xs.all D9=true)(ho:Ag xs=false)(hf:(Dr (.own 3 xs)).isSome=true):Y.call 106 [.sl 3 xs] []=some (.own 3 xs,[]):=by
 cases xs with
 |nil=>exact Dv.Sys.call_base rfl
 |cons x xs=>
  refine AP (Y:=Y) rfl Tryz.func106 A5L ul ?_;show BU Y.env A0H (Du Ab 0 [ResultVar.tmp 2] _) _
  unfold A0H;have h0:0+(x::xs).length<1099511627776:=by omega
  simp only [JS,Mj]at h0;simp only [Xo,uY]at hs ho;simp only [↓AB,BC,AEy,implies_true,Bl,QC,Option.isSome_some,↓reduceIte,Nat.reduceEqDiff,Nat.reduceLT,Nat.reduceLeDiff,Nat.reduceAdd,Nat.reduceMul,Nat.reduceMod,Nat.reduceSub,List.contains_cons,List.contains_nil,Nat.reduceBEq,List.getD_cons_zero,List.getD_cons_succ,List.getD_nil,JS,SB,List.size_toArray,List.toList_toArray,List.zip_cons_cons,List.zip_nil_left,O6,R5,WN,Rp,List.map_nil,qK,List.replicate_zero,List.set_cons_zero,lN,List.set_set,Xo,List.any_cons,List.any_nil,List.all_nil,QK,WL,List.getElem?_nil,List.range_zero,beq_self_eq_true,Int.reduceLE,Int.reduceLT,Int.reduceEq,Int.reduceSub,Int.reduceAdd,Int.reduceToNat,Int.reduceNeg,Mj,h0,hs,ho];simp only [A3Y,uZ]at hf;rw [if_pos hf]
set_option linter.defProp false in
def AC:=A7 BC (A7 A73 (A7 xc2 (A7 Ce AEy)))
abbrev Ac:AA→D:=fun x=>D.sl 3 (AJ (D.int .i64) x)
abbrev IX:AA→D:=fun x=>D.own 3 (AJ (D.int .i64) x)
abbrev BX:Op:= .assign (.const (.bool false))
abbrev CG:Op:= .assign (.const (.slice none 0 0))
abbrev Gx:Operand:= .const (.bool true)
abbrev Mq:Operand:= .const (.bool false)
abbrev Uc:Op:= .assign (.const (.int .i64 (-1)))
end Go.Proofs.YtjhjkfoabhplfaaGreat
