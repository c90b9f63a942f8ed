/- The types of this seat as data, and the system of its calls. Conditions: none. -/
import Derived.Test.YtjhjkfoabhplfaaGreatRows
import Derived.Test.YtjhjkfoabhplfaaGreatL6
import Derived.Test.YtjhjkfoabhplfaaGreatSv
import Derived.Test.YtjhjkfoabhplfaaGreatSf
import Derived.Test.YtjhjkfoabhplfaaGreatCf
import Derived.Test.YtjhjkfoabhplfaaGreatSh
import Derived.KernelRfl
namespace Go.Proofs.YtjhjkfoabhplfaaGreat
open Go Dv
set_option linter.unusedSimpArgs false
set_option maxRecDepth 100000
def vN:List Ty:=[.other,.func,.int .i64,.int .i64,.bool,.int .u8,.int .u8,.struct [2,3,4,6],.struct [2,3,4,6],.string,.string,.string,.int .u64,.struct [9,12],.struct [9,12],.ptr,.ptr,.ptr,.struct [17],.struct [17],.other,.int .i32,.slice 27,.struct [3,3,22,22],.struct [3,3,22,22],.func,.struct [3,3,22,22],.slice 3,.other,.func,.func,.func,.func,.func,.func,.func,.other,.func,.func,.func,.func,.func,.func,.func,.func,.func,.other,.func,.func,.other,.func,.func,.func,.slice 4,.struct [3,3,22,22,53],.struct [3,3,22,22,53],.func,.func,.ptr,.func,.func,.func,.func,.func,.func,.func,.func,.func,.func,.func,.func,.func,.other,.func,.func,.func,.func,.func,.struct [3,3,22,22,27],.struct [3,3,22,22,27],.func,.func,.func,.func,.func,.func,.func,.func,.func,.func,.func,.int .u64,.func,.func,.func,.func,.func,.func,.func,.func,.int .i64,.other,.func,.func,.func,.func,.int .u32,.func,.int .u64,.func,.func,.func,.func,.func,.func,.int .u64,.func,.func,.func,.ptr,.func,.func,.func,.func,.func,.func,.ptr,.other,.func,.func,.func,.func,.func,.func,.struct [17,17,17,9],.struct [17,17,17,9],.other,.other,.other,.func,.int .u8,.int .u8,.func,.ptr,.int .i32,.int .i32,.struct [12,12,106,140,5,5,141,142,143,144,145],.struct [12,12,106,140,5,5,141,142,143,144,145]]
def yD:List (TypeId×List (Nat×TypeId)):=[(54,[(0,26),(4,53)]),(55,[(0,26),(4,53)]),(78,[(0,26),(4,27)]),(79,[(0,26),(4,27)])]
def AV:Tys:=mG vN yD
def lends(f:FuncId):Bool:=[12,13,27,68,69,71,72,102,103,110].contains f
theorem ty1:AV.ty 1= .func:=nr rfl
theorem ty2:AV.ty 2= .int .i64:=nr rfl
theorem ty3:AV.ty 3= .int .i64:=nr rfl
theorem kn3:AV.known 3=true:=nr rfl
theorem st3:AV.isStruct 3=false:=nr rfl
theorem zr3:AV.zeros 3=[.int .i64 0]:=nr rfl
theorem zo3:AV.zero1 3= .int .i64 0:=nr rfl
theorem yO:AV.size 3=1:=nr rfl
theorem ty4:AV.ty 4= .bool:=nr rfl
theorem kn4:AV.known 4=true:=nr rfl
theorem st4:AV.isStruct 4=false:=nr rfl
theorem zr4:AV.zeros 4=[.bool false]:=nr rfl
theorem zo4:AV.zero1 4= .bool false:=nr rfl
theorem sz4:AV.size 4=1:=nr rfl
theorem ty5:AV.ty 5= .int .u8:=nr rfl
theorem kn5:AV.known 5=true:=nr rfl
theorem st5:AV.isStruct 5=false:=nr rfl
theorem zr5:AV.zeros 5=[.int .u8 0]:=nr rfl
theorem zo5:AV.zero1 5= .int .u8 0:=nr rfl
theorem sz5:AV.size 5=1:=nr rfl
theorem ty6:AV.ty 6= .int .u8:=nr rfl
theorem ty7:AV.ty 7= .struct [2,3,4,6]:=nr rfl
theorem ty8:AV.ty 8= .struct [2,3,4,6]:=nr rfl
theorem ty9:AV.ty 9= .string:=nr rfl
theorem ANe:AV.ty 10= .string:=nr rfl
theorem ANf:AV.ty 11= .string:=nr rfl
theorem ANg:AV.ty 12= .int .u64:=nr rfl
theorem ANh:AV.ty 13= .struct [9,12]:=nr rfl
theorem ANi:AV.ty 14= .struct [9,12]:=nr rfl
theorem ANj:AV.ty 15= .ptr:=nr rfl
theorem ANk:AV.ty 16= .ptr:=nr rfl
theorem ANl:AV.ty 17= .ptr:=nr rfl
theorem ANm:AV.ty 18= .struct [17]:=nr rfl
theorem ANn:AV.ty 19= .struct [17]:=nr rfl
theorem ANo:AV.ty 21= .int .i32:=nr rfl
theorem A2k:AV.ty 22= .slice 27:=nr rfl
theorem A9B:AV.known 22=true:=nr rfl
theorem A9C:AV.isStruct 22=false:=nr rfl
theorem A9D:AV.zeros 22=[.own 27 []]:=nr rfl
theorem A9E:AV.zero1 22= .own 27 []:=nr rfl
theorem A9F:AV.size 22=1:=nr rfl
theorem ANp:AV.ty 23= .struct [3,3,22,22]:=nr rfl
theorem A2l:AV.ty 24= .struct [3,3,22,22]:=nr rfl
theorem A9G:AV.known 24=true:=nr rfl
theorem A9H:AV.isStruct 24=true:=nr rfl
theorem A9I:AV.zeros 24=[.int .i64 0,.int .i64 0,.own 27 [],.own 27 []]:=nr rfl
theorem A9J:AV.nest 24=none:=nr rfl
theorem A9K:AV.size 24=4:=nr rfl
theorem ANq:AV.ty 25= .func:=nr rfl
theorem A9L:AV.ty 26= .struct [3,3,22,22]:=nr rfl
theorem A9M:AV.known 26=true:=nr rfl
theorem A9N:AV.isStruct 26=true:=nr rfl
theorem A9O:AV.zeros 26=[.int .i64 0,.int .i64 0,.own 27 [],.own 27 []]:=nr rfl
theorem A9P:AV.nest 26=none:=nr rfl
theorem A9Q:AV.size 26=4:=nr rfl
theorem A2m:AV.ty 27= .slice 3:=nr rfl
theorem A9R:AV.known 27=true:=nr rfl
theorem A9S:AV.isStruct 27=false:=nr rfl
theorem A9T:AV.zeros 27=[.own 3 []]:=nr rfl
theorem A9U:AV.zero1 27= .own 3 []:=nr rfl
theorem xL:AV.size 27=1:=nr rfl
theorem ANr:AV.ty 29= .func:=nr rfl
theorem ANs:AV.ty 30= .func:=nr rfl
theorem ANt:AV.ty 31= .func:=nr rfl
theorem A9V:AV.ty 32= .func:=nr rfl
theorem A9W:AV.known 32=true:=nr rfl
theorem A9X:AV.isStruct 32=false:=nr rfl
theorem A9Y:AV.zeros 32=[.konst .nilFunc]:=nr rfl
theorem A9Z:AV.zero1 32= .konst .nilFunc:=nr rfl
theorem A9a:AV.size 32=1:=nr rfl
theorem ANu:AV.ty 33= .func:=nr rfl
theorem ANv:AV.ty 34= .func:=nr rfl
theorem ANw:AV.ty 35= .func:=nr rfl
theorem ANx:AV.ty 37= .func:=nr rfl
theorem ANy:AV.ty 38= .func:=nr rfl
theorem ANz:AV.ty 39= .func:=nr rfl
theorem AO0:AV.ty 40= .func:=nr rfl
theorem AO1:AV.ty 41= .func:=nr rfl
theorem AO2:AV.ty 42= .func:=nr rfl
theorem AO3:AV.ty 43= .func:=nr rfl
theorem AO4:AV.ty 44= .func:=nr rfl
theorem AO5:AV.ty 45= .func:=nr rfl
theorem AO6:AV.ty 47= .func:=nr rfl
theorem AO7:AV.ty 48= .func:=nr rfl
theorem AO8:AV.ty 50= .func:=nr rfl
theorem AO9:AV.ty 51= .func:=nr rfl
theorem A9b:AV.ty 52= .func:=nr rfl
theorem A9c:AV.known 52=true:=nr rfl
theorem A9d:AV.isStruct 52=false:=nr rfl
theorem A9e:AV.zeros 52=[.konst .nilFunc]:=nr rfl
theorem A9f:AV.zero1 52= .konst .nilFunc:=nr rfl
theorem A9g:AV.size 52=1:=nr rfl
theorem A9h:AV.ty 53= .slice 4:=nr rfl
theorem A9i:AV.known 53=true:=nr rfl
theorem A9j:AV.isStruct 53=false:=nr rfl
theorem A9k:AV.zeros 53=[.own 4 []]:=nr rfl
theorem A9l:AV.zero1 53= .own 4 []:=nr rfl
theorem A9m:AV.size 53=1:=nr rfl
theorem AOA:AV.ty 54= .struct [3,3,22,22,53]:=nr rfl
theorem A9n:AV.ty 55= .struct [3,3,22,22,53]:=nr rfl
theorem A9o:AV.known 55=true:=nr rfl
theorem A9p:AV.isStruct 55=true:=nr rfl
theorem A9q:AV.zeros 55=[.int .i64 0,.int .i64 0,.own 27 [],.own 27 [],.own 4 []]:=nr rfl
theorem A9r:AV.nest 55=some [(0,26),(4,53)]:=nr rfl
theorem rW:AV.foff 55 0=some 0:=nr rfl
theorem rX:AV.foff 55 1=some 4:=nr rfl
theorem A9s:AV.size 55=5:=nr rfl
theorem AOB:AV.ty 56= .func:=nr rfl
theorem AOC:AV.ty 57= .func:=nr rfl
theorem A9t:AV.ty 58= .ptr:=nr rfl
theorem A9u:AV.known 58=true:=nr rfl
theorem A9v:AV.isStruct 58=false:=nr rfl
theorem A9w:AV.zeros 58=[.konst (.pointer none)]:=nr rfl
theorem A9x:AV.zero1 58= .konst (.pointer none):=nr rfl
theorem A9y:AV.size 58=1:=nr rfl
theorem AOD:AV.ty 59= .func:=nr rfl
theorem AOE:AV.ty 60= .func:=nr rfl
theorem AOF:AV.ty 61= .func:=nr rfl
theorem A9z:AV.ty 62= .func:=nr rfl
theorem AA0:AV.known 62=true:=nr rfl
theorem AA1:AV.isStruct 62=false:=nr rfl
theorem AA2:AV.zeros 62=[.konst .nilFunc]:=nr rfl
theorem AA3:AV.zero1 62= .konst .nilFunc:=nr rfl
theorem AA4:AV.size 62=1:=nr rfl
theorem AOG:AV.ty 63= .func:=nr rfl
theorem AOH:AV.ty 64= .func:=nr rfl
theorem AOI:AV.ty 65= .func:=nr rfl
theorem AOJ:AV.ty 66= .func:=nr rfl
theorem AOK:AV.ty 67= .func:=nr rfl
theorem AOL:AV.ty 68= .func:=nr rfl
theorem AOM:AV.ty 69= .func:=nr rfl
theorem AON:AV.ty 70= .func:=nr rfl
theorem AOO:AV.ty 71= .func:=nr rfl
theorem AOP:AV.ty 73= .func:=nr rfl
theorem AOQ:AV.ty 74= .func:=nr rfl
theorem AOR:AV.ty 75= .func:=nr rfl
theorem AOS:AV.ty 76= .func:=nr rfl
theorem AOT:AV.ty 77= .func:=nr rfl
theorem AOU:AV.ty 78= .struct [3,3,22,22,27]:=nr rfl
theorem AA5:AV.ty 79= .struct [3,3,22,22,27]:=nr rfl
theorem AA6:AV.known 79=true:=nr rfl
theorem AA7:AV.isStruct 79=true:=nr rfl
theorem AA8:AV.zeros 79=[.int .i64 0,.int .i64 0,.own 27 [],.own 27 [],.own 3 []]:=nr rfl
theorem AA9:AV.nest 79=some [(0,26),(4,27)]:=nr rfl
theorem rY:AV.foff 79 0=some 0:=nr rfl
theorem rZ:AV.foff 79 1=some 4:=nr rfl
theorem AAA:AV.size 79=5:=nr rfl
theorem AOV:AV.ty 80= .func:=nr rfl
theorem AOW:AV.ty 81= .func:=nr rfl
theorem AOX:AV.ty 82= .func:=nr rfl
theorem AOY:AV.ty 83= .func:=nr rfl
theorem AOZ:AV.ty 84= .func:=nr rfl
theorem AOa:AV.ty 85= .func:=nr rfl
theorem AOb:AV.ty 86= .func:=nr rfl
theorem AAB:AV.ty 87= .func:=nr rfl
theorem AAC:AV.known 87=true:=nr rfl
theorem AAD:AV.isStruct 87=false:=nr rfl
theorem AAE:AV.zeros 87=[.konst .nilFunc]:=nr rfl
theorem AAF:AV.zero1 87= .konst .nilFunc:=nr rfl
theorem AAG:AV.size 87=1:=nr rfl
theorem AOc:AV.ty 88= .func:=nr rfl
theorem AOd:AV.ty 89= .func:=nr rfl
theorem AOe:AV.ty 90= .func:=nr rfl
theorem AAH:AV.ty 91= .int .u64:=nr rfl
theorem AAI:AV.known 91=true:=nr rfl
theorem AAJ:AV.isStruct 91=false:=nr rfl
theorem AAK:AV.zeros 91=[.int .u64 0]:=nr rfl
theorem AAL:AV.zero1 91= .int .u64 0:=nr rfl
theorem AAM:AV.size 91=1:=nr rfl
theorem AOf:AV.ty 92= .func:=nr rfl
theorem AOg:AV.ty 93= .func:=nr rfl
theorem AOh:AV.ty 94= .func:=nr rfl
theorem AOi:AV.ty 95= .func:=nr rfl
theorem AAN:AV.ty 96= .func:=nr rfl
theorem AAO:AV.known 96=true:=nr rfl
theorem AAP:AV.isStruct 96=false:=nr rfl
theorem AAQ:AV.zeros 96=[.konst .nilFunc]:=nr rfl
theorem AAR:AV.zero1 96= .konst .nilFunc:=nr rfl
theorem AAS:AV.size 96=1:=nr rfl
theorem AOj:AV.ty 97= .func:=nr rfl
theorem AOk:AV.ty 98= .func:=nr rfl
theorem AOl:AV.ty 99= .func:=nr rfl
theorem yP:AV.ty 100= .int .i64:=nr rfl
theorem yQ:AV.known 100=true:=nr rfl
theorem yR:AV.isStruct 100=false:=nr rfl
theorem yS:AV.zeros 100=[.int .i64 0]:=nr rfl
theorem yU:AV.zero1 100= .int .i64 0:=nr rfl
theorem yV:AV.size 100=1:=nr rfl
theorem AKv:AV.ty 102= .func:=nr rfl
theorem AKw:AV.ty 103= .func:=nr rfl
theorem AKx:AV.ty 104= .func:=nr rfl
theorem AKy:AV.ty 105= .func:=nr rfl
theorem yX:AV.ty 106= .int .u32:=nr rfl
theorem yY:AV.known 106=true:=nr rfl
theorem yZ:AV.isStruct 106=false:=nr rfl
theorem yc:AV.zeros 106=[.int .u32 0]:=nr rfl
theorem yf:AV.zero1 106= .int .u32 0:=nr rfl
theorem yg:AV.size 106=1:=nr rfl
theorem AKz:AV.ty 107= .func:=nr rfl
theorem yh:AV.ty 108= .int .u64:=nr rfl
theorem yj:AV.known 108=true:=nr rfl
theorem yl:AV.isStruct 108=false:=nr rfl
theorem ym:AV.zeros 108=[.int .u64 0]:=nr rfl
theorem yn:AV.zero1 108= .int .u64 0:=nr rfl
theorem yo:AV.size 108=1:=nr rfl
theorem AL0:AV.ty 109= .func:=nr rfl
theorem AL1:AV.ty 110= .func:=nr rfl
theorem AL2:AV.ty 111= .func:=nr rfl
theorem yt:AV.ty 112= .func:=nr rfl
theorem yu:AV.known 112=true:=nr rfl
theorem yw:AV.isStruct 112=false:=nr rfl
theorem yx:AV.zeros 112=[.konst .nilFunc]:=nr rfl
theorem yz:AV.zero1 112= .konst .nilFunc:=nr rfl
theorem z8:AV.size 112=1:=nr rfl
theorem zA:AV.ty 113= .func:=nr rfl
theorem zC:AV.known 113=true:=nr rfl
theorem zD:AV.isStruct 113=false:=nr rfl
theorem zF:AV.zeros 113=[.konst .nilFunc]:=nr rfl
theorem zG:AV.zero1 113= .konst .nilFunc:=nr rfl
theorem zH:AV.size 113=1:=nr rfl
theorem AL3:AV.ty 114= .func:=nr rfl
theorem zI:AV.ty 115= .int .u64:=nr rfl
theorem zJ:AV.known 115=true:=nr rfl
theorem zK:AV.isStruct 115=false:=nr rfl
theorem zL:AV.zeros 115=[.int .u64 0]:=nr rfl
theorem zM:AV.zero1 115= .int .u64 0:=nr rfl
theorem zN:AV.size 115=1:=nr rfl
theorem AL4:AV.ty 116= .func:=nr rfl
theorem AL5:AV.ty 117= .func:=nr rfl
theorem AL6:AV.ty 118= .func:=nr rfl
theorem zO:AV.ty 119= .ptr:=nr rfl
theorem zP:AV.known 119=true:=nr rfl
theorem zQ:AV.isStruct 119=false:=nr rfl
theorem zR:AV.zeros 119=[.konst (.pointer none)]:=nr rfl
theorem zS:AV.zero1 119= .konst (.pointer none):=nr rfl
theorem zT:AV.size 119=1:=nr rfl
theorem AL7:AV.ty 120= .func:=nr rfl
theorem AL8:AV.ty 121= .func:=nr rfl
theorem AL9:AV.ty 122= .func:=nr rfl
theorem ALA:AV.ty 123= .func:=nr rfl
theorem ALB:AV.ty 124= .func:=nr rfl
theorem ALC:AV.ty 125= .func:=nr rfl
theorem ALD:AV.ty 126= .ptr:=nr rfl
theorem ALE:AV.ty 128= .func:=nr rfl
theorem ALF:AV.ty 129= .func:=nr rfl
theorem ALG:AV.ty 130= .func:=nr rfl
theorem ALH:AV.ty 131= .func:=nr rfl
theorem ALI:AV.ty 132= .func:=nr rfl
theorem ALJ:AV.ty 133= .func:=nr rfl
theorem ALK:AV.ty 134= .struct [17,17,17,9]:=nr rfl
theorem ALM:AV.ty 135= .struct [17,17,17,9]:=nr rfl
theorem ALN:AV.ty 139= .func:=nr rfl
theorem ALO:AV.ty 140= .int .u8:=nr rfl
theorem ALP:AV.ty 141= .int .u8:=nr rfl
theorem ALQ:AV.ty 142= .func:=nr rfl
theorem ALR:AV.ty 143= .ptr:=nr rfl
theorem ALS:AV.ty 144= .int .i32:=nr rfl
theorem ALT:AV.ty 145= .int .i32:=nr rfl
theorem ALU:AV.ty 146= .struct [12,12,106,140,5,5,141,142,143,144,145]:=nr rfl
theorem ALV:AV.ty 147= .struct [12,12,106,140,5,5,141,142,143,144,145]:=nr rfl
theorem le3:lends 3=false:=nr rfl
theorem le4:lends 4=false:=nr rfl
theorem le5:lends 5=false:=nr rfl
theorem le6:lends 6=false:=nr rfl
theorem le7:lends 7=false:=nr rfl
theorem le8:lends 8=false:=nr rfl
theorem le9:lends 9=false:=nr rfl
theorem AAT:lends 10=false:=nr rfl
theorem AAU:lends 11=false:=nr rfl
theorem AAV:lends 12=true:=nr rfl
theorem AAW:lends 13=true:=nr rfl
theorem AAX:lends 14=false:=nr rfl
theorem AAY:lends 15=false:=nr rfl
theorem AAZ:lends 16=false:=nr rfl
theorem AAa:lends 17=false:=nr rfl
theorem AAb:lends 18=false:=nr rfl
theorem AAc:lends 19=false:=nr rfl
theorem AAd:lends 20=false:=nr rfl
theorem AAe:lends 21=false:=nr rfl
theorem AAf:lends 22=false:=nr rfl
theorem AAg:lends 23=false:=nr rfl
theorem AAh:lends 24=false:=nr rfl
theorem AAi:lends 25=false:=nr rfl
theorem AAj:lends 26=false:=nr rfl
theorem AAk:lends 27=true:=nr rfl
theorem AAl:lends 28=false:=nr rfl
theorem AAm:lends 29=false:=nr rfl
theorem AAn:lends 30=false:=nr rfl
theorem AAo:lends 31=false:=nr rfl
theorem AAp:lends 32=false:=nr rfl
theorem AAq:lends 33=false:=nr rfl
theorem AAr:lends 34=false:=nr rfl
theorem AAs:lends 35=false:=nr rfl
theorem AAt:lends 36=false:=nr rfl
theorem AAu:lends 37=false:=nr rfl
theorem AAv:lends 38=false:=nr rfl
theorem AAw:lends 39=false:=nr rfl
theorem AAx:lends 40=false:=nr rfl
theorem AAy:lends 41=false:=nr rfl
theorem AAz:lends 42=false:=nr rfl
theorem A2n:lends 43=false:=nr rfl
theorem AB0:lends 44=false:=nr rfl
theorem AB1:lends 45=false:=nr rfl
theorem AB2:lends 46=false:=nr rfl
theorem AB3:lends 47=false:=nr rfl
theorem AB4:lends 48=false:=nr rfl
theorem AB5:lends 49=false:=nr rfl
theorem AB6:lends 50=false:=nr rfl
theorem AB7:lends 51=false:=nr rfl
theorem AB8:lends 52=false:=nr rfl
theorem AB9:lends 53=false:=nr rfl
theorem ABA:lends 54=false:=nr rfl
theorem ABB:lends 55=false:=nr rfl
theorem ABC:lends 56=false:=nr rfl
theorem ABD:lends 57=false:=nr rfl
theorem ABE:lends 58=false:=nr rfl
theorem ABF:lends 59=false:=nr rfl
theorem ABG:lends 60=false:=nr rfl
theorem ABH:lends 61=false:=nr rfl
theorem ABJ:lends 62=false:=nr rfl
theorem ABK:lends 63=false:=nr rfl
theorem A2o:lends 64=false:=nr rfl
theorem ABL:lends 65=false:=nr rfl
theorem ABM:lends 66=false:=nr rfl
theorem ABN:lends 67=false:=nr rfl
theorem ABO:lends 68=true:=nr rfl
theorem ABP:lends 69=true:=nr rfl
theorem ABQ:lends 70=false:=nr rfl
theorem ABR:lends 71=true:=nr rfl
theorem ABS:lends 72=true:=nr rfl
theorem ABT:lends 73=false:=nr rfl
theorem A2p:lends 74=false:=nr rfl
theorem ABU:lends 75=false:=nr rfl
theorem A2q:lends 76=false:=nr rfl
theorem ABV:lends 77=false:=nr rfl
theorem ABW:lends 78=false:=nr rfl
theorem ABX:lends 79=false:=nr rfl
theorem ABY:lends 80=false:=nr rfl
theorem ABZ:lends 81=false:=nr rfl
theorem ABa:lends 82=false:=nr rfl
theorem ABb:lends 83=false:=nr rfl
theorem ABc:lends 84=false:=nr rfl
theorem ABd:lends 85=false:=nr rfl
theorem ABe:lends 86=false:=nr rfl
theorem ABf:lends 87=false:=nr rfl
theorem ABg:lends 88=false:=nr rfl
theorem ABh:lends 89=false:=nr rfl
theorem ABi:lends 90=false:=nr rfl
theorem ABj:lends 91=false:=nr rfl
theorem ABk:lends 92=false:=nr rfl
theorem ABl:lends 93=false:=nr rfl
theorem ABm:lends 94=false:=nr rfl
theorem A2r:lends 95=false:=nr rfl
theorem ABn:lends 96=false:=nr rfl
theorem ABo:lends 97=false:=nr rfl
theorem ABp:lends 98=false:=nr rfl
theorem ABq:lends 99=false:=nr rfl
theorem zU:lends 100=false:=nr rfl
theorem zV:lends 101=false:=nr rfl
theorem zW:lends 102=true:=nr rfl
theorem zX:lends 103=true:=nr rfl
theorem zY:lends 104=false:=nr rfl
theorem zZ:lends 105=false:=nr rfl
theorem za:lends 106=false:=nr rfl
theorem zb:lends 107=false:=nr rfl
theorem ze:lends 108=false:=nr rfl
theorem zf:lends 109=false:=nr rfl
theorem zg:lends 110=true:=nr rfl
theorem zh:lends 111=false:=nr rfl
theorem zi:lends 112=false:=nr rfl
theorem zk:lends 113=false:=nr rfl
theorem zm:lends 114=false:=nr rfl
theorem zn:lends 115=false:=nr rfl
theorem zo:lends 116=false:=nr rfl
theorem zq:lends 117=false:=nr rfl
theorem zt:lends 118=false:=nr rfl
theorem zu:lends 119=false:=nr rfl
theorem zw:lends 120=false:=nr rfl
theorem zx:lends 121=false:=nr rfl
theorem zy:lends 122=false:=nr rfl
theorem zz:lends 123=false:=nr rfl
theorem A00:lends 124=false:=nr rfl
theorem A01:lends 125=false:=nr rfl
theorem A02:lends 126=false:=nr rfl
theorem A03:lends 127=false:=nr rfl
theorem A04:lends 128=false:=nr rfl
theorem A05:lends 129=false:=nr rfl
theorem A06:lends 130=false:=nr rfl
theorem A07:lends 131=false:=nr rfl
theorem A08:lends 132=false:=nr rfl
theorem A09:lends 133=false:=nr rfl
theorem A0A:lends 134=false:=nr rfl
theorem A0B:lends 135=false:=nr rfl
theorem A0C:lends 136=false:=nr rfl
theorem A0D:lends 137=false:=nr rfl
theorem A0E:lends 138=false:=nr rfl
theorem A0F:lends 139=false:=nr rfl
theorem A0G:lends 140=false:=nr rfl
theorem A0H:lends 141=false:=nr rfl
theorem A0I:lends 142=false:=nr rfl
theorem A0J:lends 143=false:=nr rfl
theorem A0K:lends 144=false:=nr rfl
theorem A0L:lends 145=false:=nr rfl
theorem A0M:lends 146=false:=nr rfl
theorem A0N:lends 147=false:=nr rfl
theorem A0O:lends 148=false:=nr rfl
theorem A0P:lends 149=false:=nr rfl
theorem A0Q:lends 150=false:=nr rfl
theorem A0R:lends 151=false:=nr rfl
theorem A0S:lends 152=false:=nr rfl
theorem A0T:lends 153=false:=nr rfl
theorem A0U:lends 154=false:=nr rfl
theorem A0V:lends 155=false:=nr rfl
theorem A0W:lends 156=false:=nr rfl
theorem A0X:lends 157=false:=nr rfl
theorem A0Y:lends 158=false:=nr rfl
theorem A0Z:lends 159=false:=nr rfl
theorem A0a:lends 160=false:=nr rfl
theorem A0b:lends 161=false:=nr rfl
theorem A0c:lends 162=false:=nr rfl
theorem A0d:lends 163=false:=nr rfl
set_option maxRecDepth 100000 in
theorem xM:Br Tryz.prog AV:=A1L (by kernel_rfl)
theorem mixed:Tryz.prog.follows .mixedOrders=true:=by kernel_rfl
noncomputable def Y0:Dv.Sys:={P:=Tryz.prog,T:=AV,lends:=lends,base:=fun _ _ _=>none}
theorem AHl:Dv.Sys.Ok Y0:=⟨xM,mixed,fun _ _ _ _ _ h=>by cases h⟩
theorem AHm(T:Tys)(s:St)(t:TypeId):ev T s t (.const .nilFunc)=some (.konst .nilFunc):=nr rfl
theorem AHn(T:Tys)(s:St)(t:TypeId):ev T s t (.const .nilIface)=some (.konst .nilIface):=nr rfl
theorem AHo(T:Tys)(s:St)(t:TypeId):ev T s t (.const (.pointer none))=some (.konst (.pointer none)):=nr rfl
theorem y0T:Y0.T=AV:=nr rfl
theorem y0L:Y0.lends=lends:=nr rfl
set_option maxRecDepth 10000 in
set_option linter.defProp false in
def ABr:=
 And.intro @y0T (
 And.intro @y0L (
 And.intro @ty3 (
 And.intro @ty4 (
 And.intro @ty5 (
 And.intro @A2k (
 And.intro @A2l (
 And.intro @A9L (
 And.intro @A2m (
 And.intro @A9V (
 And.intro @A9b (
 And.intro @A9h (
 And.intro @A9n (
 And.intro @A9t (
 And.intro @A9z (
 And.intro @AA5 (
 And.intro @AAB (
 And.intro @AAH (
 And.intro @AAN (
 And.intro @yP (
 And.intro @yX (
 And.intro @yh (
 And.intro @yt (
 And.intro @zA (
 And.intro @zI (
 And.intro @zO (
 And.intro @kn3 (
 And.intro @st3 (
 And.intro @yO (
 And.intro @zr3 (
 And.intro @kn4 (
 And.intro @st4 (
 And.intro @sz4 (
 And.intro @zr4 (
 And.intro @kn5 (
 And.intro @st5 (
 And.intro @sz5 (
 And.intro @zr5 (
 And.intro @A9B (
 And.intro @A9C (
 And.intro @A9F (
 And.intro @A9D (
 And.intro @A9G (
 And.intro @A9H (
 And.intro @A9K (
 And.intro @A9I (
 And.intro @A9M (
 And.intro @A9N (
 And.intro @A9Q (
 And.intro @A9O (
 And.intro @A9R (
 And.intro @A9S (
 And.intro @xL (
 And.intro @A9T (
 And.intro @A9W (
 And.intro @A9X (
 And.intro @A9a (
 And.intro @A9Y (
 And.intro @A9c (
 And.intro @A9d (
 And.intro @A9g (
 And.intro @A9e (
 And.intro @A9i (
 And.intro @A9j (
 And.intro @A9m (
 And.intro @A9k (
 And.intro @A9o (
 And.intro @A9p (
 And.intro @A9s (
 And.intro @A9q (
 And.intro @A9u (
 And.intro @A9v (
 And.intro @A9y (
 And.intro @A9w (
 And.intro @AA0 (
 And.intro @AA1 (
 And.intro @AA4 (
 And.intro @AA2 (
 And.intro @AA6 (
 And.intro @AA7 (
 And.intro @AAA (
 And.intro @AA8 (
 And.intro @AAC (
 And.intro @AAD (
 And.intro @AAG (
 And.intro @AAE (
 And.intro @AAI (
 And.intro @AAJ (
 And.intro @AAM (
 And.intro @AAK (
 And.intro @AAO (
 And.intro @AAP (
 And.intro @AAS (
 And.intro @AAQ (
 And.intro @yQ (
 And.intro @yR (
 And.intro @yV (
 And.intro @yS (
 And.intro @yY (
 And.intro @yZ (
 And.intro @yg (
 And.intro @yc (
 And.intro @yj (
 And.intro @yl (
 And.intro @yo (
 And.intro @ym (
 And.intro @yu (
 And.intro @yw (
 And.intro @z8 (
 And.intro @yx (
 And.intro @zC (
 And.intro @zD (
 And.intro @zH (
 And.intro @zF (
 And.intro @zJ (
 And.intro @zK (
 And.intro @zN (
 And.intro @zL (
 And.intro @zP (
 And.intro @zQ (
 And.intro @zT (
 And.intro @zR (
 And.intro @A9J (
 And.intro @A9P (
 And.intro @A9r (
 And.intro @AA9 (
 And.intro @rW (
 And.intro @rX (
 And.intro @rY (
 And.intro @rZ (
 And.intro @zo3 (
 And.intro @zo4 (
 And.intro @zo5 (
 And.intro @A9E (
 And.intro @A9U (
 And.intro @A9Z (
 And.intro @A9f (
 And.intro @A9l (
 And.intro @A9x (
 And.intro @AA3 (
 And.intro @AAF (
 And.intro @AAL (
 And.intro @AAR (
 And.intro @yU (
 And.intro @yf (
 And.intro @yn (
 And.intro @yz (
 And.intro @zG (
 And.intro @zM (
 And.intro @zS (
 And.intro @le3 (
 And.intro @le4 (
 And.intro @le5 (
 And.intro @le6 (
 And.intro @le7 (
 And.intro @le8 (
 And.intro @le9 (
 And.intro @AAT (
 And.intro @AAU (
 And.intro @AAV (
 And.intro @AAW (
 And.intro @AAX (
 And.intro @AAY (
 And.intro @AAZ (
 And.intro @AAa (
 And.intro @AAb (
 And.intro @AAc (
 And.intro @AAd (
 And.intro @AAe (
 And.intro @AAf (
 And.intro @AAg (
 And.intro @AAh (
 And.intro @AAi (
 And.intro @AAj (
 And.intro @AAk (
 And.intro @AAl (
 And.intro @AAm (
 And.intro @AAn (
 And.intro @AAo (
 And.intro @AAp (
 And.intro @AAq (
 And.intro @AAr (
 And.intro @AAs (
 And.intro @AAt (
 And.intro @AAu (
 And.intro @AAv (
 And.intro @AAw (
 And.intro @AAx (
 And.intro @AAy (
 And.intro @AAz (
 And.intro @A2n (
 And.intro @AB0 (
 And.intro @AB1 (
 And.intro @AB2 (
 And.intro @AB3 (
 And.intro @AB4 (
 And.intro @AB5 (
 And.intro @AB6 (
 And.intro @AB7 (
 And.intro @AB8 (
 And.intro @AB9 (
 And.intro @ABA (
 And.intro @ABB (
 And.intro @ABC (
 And.intro @ABD (
 And.intro @ABE (
 And.intro @ABF (
 And.intro @ABG (
 And.intro @ABH (
 And.intro @ABJ (
 And.intro @ABK (
 And.intro @A2o (
 And.intro @ABL (
 And.intro @ABM (
 And.intro @ABN (
 And.intro @ABO (
 And.intro @ABP (
 And.intro @ABQ (
 And.intro @ABR (
 And.intro @ABS (
 And.intro @ABT (
 And.intro @A2p (
 And.intro @ABU (
 And.intro @A2q (
 And.intro @ABV (
 And.intro @ABW (
 And.intro @ABX (
 And.intro @ABY (
 And.intro @ABZ (
 And.intro @ABa (
 And.intro @ABb (
 And.intro @ABc (
 And.intro @ABd (
 And.intro @ABe (
 And.intro @ABf (
 And.intro @ABg (
 And.intro @ABh (
 And.intro @ABi (
 And.intro @ABj (
 And.intro @ABk (
 And.intro @ABl (
 And.intro @ABm (
 And.intro @A2r (
 And.intro @ABn (
 And.intro @ABo (
 And.intro @ABp (
 And.intro @ABq (
 And.intro @zU (
 And.intro @zV (
 And.intro @zW (
 And.intro @zX (
 And.intro @zY (
 And.intro @zZ (
 And.intro @za (
 And.intro @zb (
 And.intro @ze (
 And.intro @zf (
 And.intro @zg (
 And.intro @zh (
 And.intro @zi (
 And.intro @zk (
 And.intro @zm (
 And.intro @zn (
 And.intro @zo (
 And.intro @zq (
 And.intro @zt (
 And.intro @zu (
 And.intro @zw (
 And.intro @zx (
 And.intro @zy (
 And.intro @zz (
 And.intro @A00 (
 And.intro @A01 (
 And.intro @A02 (
 And.intro @A03 (
 And.intro @A04 (
 And.intro @A05 (
 And.intro @A06 (
 And.intro @A07 (
 And.intro @A08 (
 And.intro @A09 (
 And.intro @A0A (
 And.intro @A0B (
 And.intro @A0C (
 And.intro @A0D (
 And.intro @A0E (
 And.intro @A0F (
 And.intro @A0G (
 And.intro @A0H (
 And.intro @A0I (
 And.intro @A0J (
 And.intro @A0K (
 And.intro @A0L (
 And.intro @A0M (
 And.intro @A0N (
 And.intro @A0O (
 And.intro @A0P (
 And.intro @A0Q (
 And.intro @A0R (
 And.intro @A0S (
 And.intro @A0T (
 And.intro @A0U (
 And.intro @A0V (
 And.intro @A0W (
 And.intro @A0X (
 And.intro @A0Y (
 And.intro @A0Z (
 And.intro @A0a (
 And.intro @A0b (
 And.intro @A0c (@A0d))))))))))))))))))))))))))))))))))))))))))))))))))))))))))))))))))))))))))))))))))))))))))))))))))))))))))))))))))))))))))))))))))))))))))))))))))))))))))))))))))))))))))))))))))))))))))))))))))))))))))))))))))))))))))))))))))))))))))))))))))))))))))))))))))))))))))))))))))))))))))))))))))))))))))))))))))))))
def rf:SC:= .seq (.ops [oX 2 (.assign (.const (.slice none 0 0))) 27]) (.seq (.seq (.ops [oM 3 0 27,oB 4 .eql 27 (tK 3) (.const (.slice none 0 0)) 27 4]) (.cond (tK 4) (.seq (.ops [oX 2 (.assign (.const (.slice none 0 0))) 27]) .ret) .skip)) (.seq (.ops [oX 5 (.buildSlice 27 0 #[]) 27,oM 6 0 27,oX 7 (.call ⟨(.builtin .append), #[(tK 5),(tK 6)], #[27,27]⟩) 27,oA 2 7 27]) .ret))
theorem kL:Tryz.f106.body.map (BO lends)=some rf:=by kernel_rfl
theorem A0e:Bi Tryz.f106 1=true:=by kernel_rfl
theorem jG(A:Option Addr)(c:Nat):Y0.call 106 [.konst (.slice A 0 c)] []=some (.own 3 [],[]):=by
 refine AL (Y:=Y0) rfl Tryz.func106 A0e kL ?_;show Bf Y0.env rf (EG AV 0 [ResultVar.tmp 2] _) _
 unfold rf
 cases A<;>simp only [↓AC,A7,ABr,implies_true,Option.bind_some,Option.map_some,Option.isSome_some,↓reduceIte,Nat.reduceEqDiff,Nat.reduceLT,Nat.reduceLeDiff,Nat.reduceAdd,Nat.reduceMul,Nat.reduceMod,Nat.reduceSub,List.contains_cons,List.contains_nil,Nat.reduceBEq,List.getD_cons_zero,List.getD_cons_succ,List.getD_nil,List.length_cons,List.length_nil,List.size_toArray,List.toList_toArray,List.zip_cons_cons,List.zip_nil_left,List.append_nil,List.nil_append,List.cons_append,List.map_cons,List.map_nil,List.replicate_succ,List.replicate_zero,List.set_cons_zero,List.set_cons_succ,List.set_set,List.all_cons,List.any_cons,List.any_nil,List.all_nil,List.getElem?_cons_zero,List.getElem?_cons_succ,List.getElem?_nil,List.range_zero,beq_self_eq_true,Int.reduceLE,Int.reduceLT,Int.reduceEq,Int.reduceSub,Int.reduceAdd,Int.reduceToNat,Int.reduceNeg,Option.isNone_none,Option.isNone_some]
theorem xN:Dv.Good Tryz.prog AV 106 [.sl 3 []] [] (.own 3 []) []:=iR kn3 (fun A c=>Dv.Sys.call_good AHl (jG A c))
def rq(f:FuncId)(a l:List D):Option (D×List D):=
 match f,a,l with
 | 106,[.sl 3 []],[]=>some (.own 3 [],[])
 | _,_,_=>none
theorem xO: ∀f a l r outs,rq f a l=some (r,outs)→Dv.Good Tryz.prog AV f a l r outs:=by
 intro f a l r outs h;unfold rq at h
 split at h
 ·simp only [Option.some.injEq,Prod.mk.injEq]at h;obtain⟨rfl,rfl⟩:=h;exact xN
 ·cases h
theorem ru: ∀zs:List Int,zs.length<4611686018427387904→Dv.Good Tryz.prog AV 68 [.vw [100000] 0 0] [.own 3 (CE zs)] (.tup []) [.own 3 (CE (GK zs))]:=fun zs h=>
 mY ⟨Tryz.f68,Tryz.func68,rfl,by decide⟩ yO (fun blk off cap zs w h1 h2 h3=>Tryz.slices_Sort_int blk off cap zs w h1 h2 h3) (fun p cap w=>Tryz.slices_Sort_int_none p cap w) zs h
theorem jH: ∀zs:List Int,zs.length<1099511627776→Dv.Good Tryz.prog AV 125 [.clo 141 [.cptr [.sl 3 (CE zs)]]] [] (.own 3 (CE (GK zs))) []:=fun zs h=>
 dU ⟨Tryz.f125,Tryz.func125,rfl,by decide⟩ yO
  (fun p ad cap w h1 h2=>callsIn_wide.1 (Go.Proofs.sv.sorted_in 5 (Nat.le_refl _) p _ [] (by decide) (by decide) w h1 h2 (.inl ⟨ad,cap,rfl,rfl⟩)))
  (fun p b off cap zs w h0 h1 h2 h3 h4=>callsIn_wide.1 (Go.Proofs.sv.sorted_in 5 (Nat.le_refl _) p _ zs (by have:maxLen=9223372036854775807:=rfl;omega) (by omega) w h1 h2 (.inr ⟨b,off,cap,rfl,h3,h4⟩))) zs h
theorem mg: ∀xss:List (List Int),xss.length<4611686018427387904→(∀x∈xss,x.length≤9223372036854775807)→Dv.Good Tryz.prog AV 102 [.vw [100000] 0 0,.clo 64 []] [.own 27 (AB (fun x=> .own 3 (AB (D.int .i64) x)) xss)] (.tup []) [.own 27 (AB (fun x=> .own 3 (AB (D.int .i64) x)) (Er xss))]:=fun xss h h2=>
 jD ⟨Tryz.f102,Tryz.func102,rfl,by decide⟩ xL yO Go.Proofs.sf.enters Go.Proofs.sf.compare Go.Proofs.sf.sorts (fun p cap fv w=>Tryz.slices_SortFunc_none (α:=Nat) p cap fv w) xss h h2
theorem mh: ∀xss:List (List Int),xss.length≤9223372036854775807→(∀x∈xss,x.length≤9223372036854775807)→Dv.Good Tryz.prog AV 103 [.vw [100000] 0 0,.clo 104 []] [.own 27 (AB (fun x=> .own 3 (AB (D.int .i64) x)) xss)] (.own 27 (AB (fun x=> .own 3 (AB (D.int .i64) x)) (dedL xss))) [.undef]:=fun xss h h2=>
 jF ⟨Tryz.f103,Tryz.func103,rfl,by decide⟩ xL yO Go.Proofs.ce.equal Go.Proofs.cf.compact Go.Proofs.cf.none_ xss h h2
theorem xP: ∀(zs:List Int) (i j:Nat),0<zs.length→i≤j→j≤zs.length→Dv.Good Tryz.prog AV 110 [.vw [100000] 0 0,.int .i64 i,.int .i64 j] [.own 3 (CE zs)] (.own 3 (CE (SF zs i j))) [.undef]:=fun zs i j h1 h2 h3=>
 dX ⟨Tryz.f110,Tryz.func110,rfl,by decide⟩ yO (fun blk off cap zs i j w h1 h2 h3 h4 h5=>Tryz.slices_Delete_int blk off cap i j zs w h1 h2 h3 h4 h5) zs i j h1 h2 h3
theorem jI: ∀n:Nat,n<1099511627776→Dv.Good Tryz.prog AV 98 [.konst (.slice none 0 0),.int .i64 n] [] (.own 3 []) []:=fun n h=>
 jA (ρ:=Tryz.laysGrow98_ren) xM Tryz.laysGrow98 ⟨Tryz.f98,Tryz.func98,rfl,by decide⟩ kn3 yO n h
noncomputable def Y:Dv.Sys:={P:=Tryz.prog,T:=AV,lends:=lends,base:=Mm (Ov 98 3) (Mm (Mm (Mm (Mm (Mm rq (Ou 68 3)) (Lm 125 141 3)) (NK 102 64 27 3)) (NL 103 104 27 3)) (Qu 110 3))}
theorem yOk:Dv.Sys.Ok Y:=⟨xM,mixed,JI (Ws jI) (JI (JI (JI (JI (JI xO (Wp ru)) (Tn jH)) (VN mg)) (VO mh)) (Yi xP))⟩
theorem ry:AV.ty 900013= .other:=nr rfl
theorem yT:Y.T=AV:=nr rfl
theorem yL:Y.lends=lends:=nr rfl
set_option maxRecDepth 10000 in
set_option linter.defProp false in
def AJ:=
 And.intro @ry (
 And.intro @yT (
 And.intro @yL (
 And.intro @AHm (
 And.intro @AHn (
 And.intro @AHo (
 And.intro @ty3 (
 And.intro @ty4 (
 And.intro @ty5 (
 And.intro @A2k (
 And.intro @A2l (
 And.intro @A9L (
 And.intro @A2m (
 And.intro @A9V (
 And.intro @A9b (
 And.intro @A9h (
 And.intro @A9n (
 And.intro @A9t (
 And.intro @A9z (
 And.intro @AA5 (
 And.intro @AAB (
 And.intro @AAH (
 And.intro @AAN (
 And.intro @yP (
 And.intro @yX (
 And.intro @yh (
 And.intro @yt (
 And.intro @zA (
 And.intro @zI (
 And.intro @zO (
 And.intro @kn3 (
 And.intro @st3 (
 And.intro @yO (
 And.intro @zr3 (
 And.intro @kn4 (
 And.intro @st4 (
 And.intro @sz4 (
 And.intro @zr4 (
 And.intro @kn5 (
 And.intro @st5 (
 And.intro @sz5 (
 And.intro @zr5 (
 And.intro @A9B (
 And.intro @A9C (
 And.intro @A9F (
 And.intro @A9D (
 And.intro @A9G (
 And.intro @A9H (
 And.intro @A9K (
 And.intro @A9I (
 And.intro @A9M (
 And.intro @A9N (
 And.intro @A9Q (
 And.intro @A9O (
 And.intro @A9R (
 And.intro @A9S (
 And.intro @xL (
 And.intro @A9T (
 And.intro @A9W (
 And.intro @A9X (
 And.intro @A9a (
 And.intro @A9Y (
 And.intro @A9c (
 And.intro @A9d (
 And.intro @A9g (
 And.intro @A9e (
 And.intro @A9i (
 And.intro @A9j (
 And.intro @A9m (
 And.intro @A9k (
 And.intro @A9o (
 And.intro @A9p (
 And.intro @A9s (
 And.intro @A9q (
 And.intro @A9u (
 And.intro @A9v (
 And.intro @A9y (
 And.intro @A9w (
 And.intro @AA0 (
 And.intro @AA1 (
 And.intro @AA4 (
 And.intro @AA2 (
 And.intro @AA6 (
 And.intro @AA7 (
 And.intro @AAA (
 And.intro @AA8 (
 And.intro @AAC (
 And.intro @AAD (
 And.intro @AAG (
 And.intro @AAE (
 And.intro @AAI (
 And.intro @AAJ (
 And.intro @AAM (
 And.intro @AAK (
 And.intro @AAO (
 And.intro @AAP (
 And.intro @AAS (
 And.intro @AAQ (
 And.intro @yQ (
 And.intro @yR (
 And.intro @yV (
 And.intro @yS (
 And.intro @yY (
 And.intro @yZ (
 And.intro @yg (
 And.intro @yc (
 And.intro @yj (
 And.intro @yl (
 And.intro @yo (
 And.intro @ym (
 And.intro @yu (
 And.intro @yw (
 And.intro @z8 (
 And.intro @yx (
 And.intro @zC (
 And.intro @zD (
 And.intro @zH (
 And.intro @zF (
 And.intro @zJ (
 And.intro @zK (
 And.intro @zN (
 And.intro @zL (
 And.intro @zP (
 And.intro @zQ (
 And.intro @zT (
 And.intro @zR (
 And.intro @A9J (
 And.intro @A9P (
 And.intro @A9r (
 And.intro @AA9 (
 And.intro @rW (
 And.intro @rX (
 And.intro @rY (
 And.intro @rZ (
 And.intro @zo3 (
 And.intro @zo4 (
 And.intro @zo5 (
 And.intro @A9E (
 And.intro @A9U (
 And.intro @A9Z (
 And.intro @A9f (
 And.intro @A9l (
 And.intro @A9x (
 And.intro @AA3 (
 And.intro @AAF (
 And.intro @AAL (
 And.intro @AAR (
 And.intro @yU (
 And.intro @yf (
 And.intro @yn (
 And.intro @yz (
 And.intro @zG (
 And.intro @zM (
 And.intro @zS (
 And.intro @le3 (
 And.intro @le4 (
 And.intro @le5 (
 And.intro @le6 (
 And.intro @le7 (
 And.intro @le8 (
 And.intro @le9 (
 And.intro @AAT (
 And.intro @AAU (
 And.intro @AAV (
 And.intro @AAW (
 And.intro @AAX (
 And.intro @AAY (
 And.intro @AAZ (
 And.intro @AAa (
 And.intro @AAb (
 And.intro @AAc (
 And.intro @AAd (
 And.intro @AAe (
 And.intro @AAf (
 And.intro @AAg (
 And.intro @AAh (
 And.intro @AAi (
 And.intro @AAj (
 And.intro @AAk (
 And.intro @AAl (
 And.intro @AAm (
 And.intro @AAn (
 And.intro @AAo (
 And.intro @AAp (
 And.intro @AAq (
 And.intro @AAr (
 And.intro @AAs (
 And.intro @AAt (
 And.intro @AAu (
 And.intro @AAv (
 And.intro @AAw (
 And.intro @AAx (
 And.intro @AAy (
 And.intro @AAz (
 And.intro @A2n (
 And.intro @AB0 (
 And.intro @AB1 (
 And.intro @AB2 (
 And.intro @AB3 (
 And.intro @AB4 (
 And.intro @AB5 (
 And.intro @AB6 (
 And.intro @AB7 (
 And.intro @AB8 (
 And.intro @AB9 (
 And.intro @ABA (
 And.intro @ABB (
 And.intro @ABC (
 And.intro @ABD (
 And.intro @ABE (
 And.intro @ABF (
 And.intro @ABG (
 And.intro @ABH (
 And.intro @ABJ (
 And.intro @ABK (
 And.intro @A2o (
 And.intro @ABL (
 And.intro @ABM (
 And.intro @ABN (
 And.intro @ABO (
 And.intro @ABP (
 And.intro @ABQ (
 And.intro @ABR (
 And.intro @ABS (
 And.intro @ABT (
 And.intro @A2p (
 And.intro @ABU (
 And.intro @A2q (
 And.intro @ABV (
 And.intro @ABW (
 And.intro @ABX (
 And.intro @ABY (
 And.intro @ABZ (
 And.intro @ABa (
 And.intro @ABb (
 And.intro @ABc (
 And.intro @ABd (
 And.intro @ABe (
 And.intro @ABf (
 And.intro @ABg (
 And.intro @ABh (
 And.intro @ABi (
 And.intro @ABj (
 And.intro @ABk (
 And.intro @ABl (
 And.intro @ABm (
 And.intro @A2r (
 And.intro @ABn (
 And.intro @ABo (
 And.intro @ABp (
 And.intro @ABq (
 And.intro @zU (
 And.intro @zV (
 And.intro @zW (
 And.intro @zX (
 And.intro @zY (
 And.intro @zZ (
 And.intro @za (
 And.intro @zb (
 And.intro @ze (
 And.intro @zf (
 And.intro @zg (
 And.intro @zh (
 And.intro @zi (
 And.intro @zk (
 And.intro @zm (
 And.intro @zn (
 And.intro @zo (
 And.intro @zq (
 And.intro @zt (
 And.intro @zu (
 And.intro @zw (
 And.intro @zx (
 And.intro @zy (
 And.intro @zz (
 And.intro @A00 (
 And.intro @A01 (
 And.intro @A02 (
 And.intro @A03 (
 And.intro @A04 (
 And.intro @A05 (
 And.intro @A06 (
 And.intro @A07 (
 And.intro @A08 (
 And.intro @A09 (
 And.intro @A0A (
 And.intro @A0B (
 And.intro @A0C (
 And.intro @A0D (
 And.intro @A0E (
 And.intro @A0F (
 And.intro @A0G (
 And.intro @A0H (
 And.intro @A0I (
 And.intro @A0J (
 And.intro @A0K (
 And.intro @A0L (
 And.intro @A0M (
 And.intro @A0N (
 And.intro @A0O (
 And.intro @A0P (
 And.intro @A0Q (
 And.intro @A0R (
 And.intro @A0S (
 And.intro @A0T (
 And.intro @A0U (
 And.intro @A0V (
 And.intro @A0W (
 And.intro @A0X (
 And.intro @A0Y (
 And.intro @A0Z (
 And.intro @A0a (
 And.intro @A0b (
 And.intro @A0c (@A0d))))))))))))))))))))))))))))))))))))))))))))))))))))))))))))))))))))))))))))))))))))))))))))))))))))))))))))))))))))))))))))))))))))))))))))))))))))))))))))))))))))))))))))))))))))))))))))))))))))))))))))))))))))))))))))))))))))))))))))))))))))))))))))))))))))))))))))))))))))))))))))))))))))))))))))))))))))))))))
theorem xQ(n:Int)(h:0≤n∧n<1099511627776):Y.call 98 [.konst (.slice none 0 0),.int .i64 n] []=some (.own 3 [],[]):=Dv.Sys.call_base (Dk<|dV 98 3 n h)
theorem jJ(zs:List Int)(h:zs.length<1099511627776):Y.call 125 [.clo 141 [.cptr [.sl 3 (AB (D.int .i64) zs)]]] []=some (.own 3 (AB (D.int .i64) (GK zs)),[]):=Dv.Sys.call_base (Dk<|Dk<|Dk<|(Wq 125 141 3 zs h))
theorem mo(xss:List (List Int))(h:xss.length<4611686018427387904)(h2: ∀x∈xss,x.length≤9223372036854775807):Y.call 102 [.vw [100000] 0 0,.clo 64 []] [.own 27 (AB (fun x=> .own 3 (AB (D.int .i64) x)) xss)]=some (.tup [],[.own 27 (AB (fun x=> .own 3 (AB (D.int .i64) x)) (Er xss))]):=Dv.Sys.call_base (Dk<|Dk<|(Yh 102 64 27 3 xss h h2))
theorem mq(xss:List (List Int))(h:xss.length≤9223372036854775807)(h2: ∀x∈xss,x.length≤9223372036854775807):Y.call 103 [.vw [100000] 0 0,.clo 104 []] [.own 27 (AB (fun x=> .own 3 (AB (D.int .i64) x)) xss)]=some (.own 27 (AB (fun x=> .own 3 (AB (D.int .i64) x)) (dedL xss)),[.undef]):=Dv.Sys.call_base (Dk<|(Yj 103 104 27 3 xss h h2))
theorem ACZ(zs:List Int)(i j:Int)(h:0<zs.length∧0≤i∧i≤j∧j≤(zs.length:Int)):Y.call 110 [.vw [100000] 0 0,.int .i64 i,.int .i64 j] [.own 3 (AB (D.int .i64) zs)]=some (.own 3 (AB (D.int .i64) (SF zs i.toNat j.toNat)),[.undef]):=Dv.Sys.call_base (jE 110 3 zs i j h)
theorem kM(zs:List Int)(h:zs.length<4611686018427387904):Y.call 68 [.vw [100000] 0 0] [.own 3 (AB (D.int .i64) zs)]=some (.tup [],[.own 3 (AB (D.int .i64) (GK zs))]):=Dv.Sys.call_base (Dk<|Dk<|Dk<|Dk<|(dS 68 3 zs h))
theorem mr(xs:List D)(h:xs.length<1099511627776)(hs:xs.all Bh=true)(ho:AP xs=false)(hf:(D8 (.own 3 xs)).isSome=true):Y.call 106 [.sl 3 xs] []=some (.own 3 xs,[]):=by
 cases xs with
 | nil=>exact Dv.Sys.call_base rfl
 | cons x xs=>
  refine AL (Y:=Y) rfl Tryz.func106 A0e kL ?_;show Bf Y.env rf (EG AV 0 [ResultVar.tmp 2] _) _
  unfold rf;have h0:0+(x::xs).length<1099511627776:=by omega
  simp only [List.length_cons,Nat.zero_add]at h0;simp only [List.all_cons,kE]at hs ho;simp only [↓AC,A7,AJ,implies_true,Option.bind_some,Option.map_some,Option.isSome_some,↓reduceIte,Nat.reduceEqDiff,Nat.reduceLT,Nat.reduceLeDiff,Nat.reduceAdd,Nat.reduceMul,Nat.reduceMod,Nat.reduceSub,List.contains_cons,List.contains_nil,Nat.reduceBEq,List.getD_cons_zero,List.getD_cons_succ,List.getD_nil,List.length_cons,List.length_nil,List.size_toArray,List.toList_toArray,List.zip_cons_cons,List.zip_nil_left,List.append_nil,List.nil_append,List.cons_append,List.map_cons,List.map_nil,List.replicate_succ,List.replicate_zero,List.set_cons_zero,List.set_cons_succ,List.set_set,List.all_cons,List.any_cons,List.any_nil,List.all_nil,List.getElem?_cons_zero,List.getElem?_cons_succ,List.getElem?_nil,List.range_zero,beq_self_eq_true,Int.reduceLE,Int.reduceLT,Int.reduceEq,Int.reduceSub,Int.reduceAdd,Int.reduceToNat,Int.reduceNeg,Nat.zero_add,h0,hs,ho];simp only [qW,UD]at hf;rw [if_pos hf]
end Go.Proofs.YtjhjkfoabhplfaaGreat
