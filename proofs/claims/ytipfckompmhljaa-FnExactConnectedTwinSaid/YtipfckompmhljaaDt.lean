/- The types of this seat as data, and the system of its calls. Conditions: none. -/
import Derived.Test.YtipfckompmhljaaRows
import Derived.Test.YtipfckompmhljaaL6
import Derived.Test.YtipfckompmhljaaSv
import Derived.KernelRfl
namespace Go.Proofs.Ytipfckompmhljaa
open Go Dv
set_option linter.unusedSimpArgs false
set_option maxRecDepth 100000
def sG:List Ty:=[.other,.func,.int .i64,.int .i64,.bool,.int .u8,.int .u8,.struct [2,3,4,6],.struct [2,3,4,6],.string,.string,.string,.int .u64,.struct [9,12],.struct [9,12],.ptr,.ptr,.ptr,.struct [17],.struct [17],.other,.int .i32,.slice 97,.slice 3,.struct [22,23,23],.struct [22,23,23],.func,.other,.func,.slice 100,.struct [29,23,23],.struct [29,23,23],.func,.func,.func,.func,.func,.other,.func,.func,.func,.func,.func,.func,.slice 23,.struct [3,3,44,44],.struct [3,3,44,44],.func,.other,.func,.struct [3,3,44,44],.func,.func,.func,.func,.other,.func,.func,.func,.func,.func,.func,.func,.func,.func,.func,.func,.func,.func,.func,.func,.other,.func,.func,.func,.slice 78,.func,.struct [3,3,3,3],.struct [3,3,3,3],.other,.func,.func,.func,.struct [3,3,44,44,3,3,44,44],.struct [3,3,44,44,3,3,44,44],.func,.func,.ptr,.struct [3,3,44,44,3,3,44,44,23],.struct [3,3,44,44,3,3,44,44,23],.func,.func,.func,.func,.func,.func,.func,.slice 141,.func,.func,.slice 102,.struct [3,3],.struct [3,3],.func,.func,.func,.func,.func,.func,.func,.func,.slice 113,.func,.slice 4,.func,.func,.func,.func,.func,.func,.func,.func,.func,.func,.func,.func,.func,.func,.func,.int .u64,.func,.func,.func,.func,.slice 44,.other,.func,.func,.func,.func,.func,.struct [3,3],.func,.func,.func,.func,.map 102 102,.func,.func,.func,.func,.func,.func,.func,.func,.func,.func,.int .u32,.other,.func,.int .u64,.other,.func,.func,.func,.func,.func,.func,.other,.func,.func,.func,.func,.func,.other,.func,.func,.func,.int .i64,.other,.func,.func,.func,.func,.func,.func,.int .u64,.func,.func,.func,.ptr,.func,.func,.ptr,.other,.func,.func,.struct [17,17,17,9],.struct [17,17,17,9],.other,.other,.other,.func,.int .u8,.int .u8,.func,.ptr,.int .i32,.int .i32,.struct [12,12,157,203,5,5,204,205,206,207,208],.struct [12,12,157,203,5,5,204,205,206,207,208]]
def vz:List (TypeId×List (Nat×TypeId)):=[(83,[(0,50),(4,50)]),(84,[(0,50),(4,50)]),(88,[(0,50),(4,50),(8,23)]),(89,[(0,50),(4,50),(8,23)])]
def Ad:Tys:=kM sG vz
def lends(f:FuncId):Bool:=[17,18,28,48,61,63,97,108,127].contains f
theorem ty1:Ad.ty 1= .func:=nr rfl
theorem ty2:Ad.ty 2= .int .i64:=nr rfl
theorem ty3:Ad.ty 3= .int .i64:=nr rfl
theorem kn3:Ad.known 3=true:=nr rfl
theorem st3:Ad.isStruct 3=false:=nr rfl
theorem zr3:Ad.zeros 3=[.int .i64 0]:=nr rfl
theorem zo3:Ad.zero1 3= .int .i64 0:=nr rfl
theorem sz3:Ad.size 3=1:=nr rfl
theorem ty4:Ad.ty 4= .bool:=nr rfl
theorem kn4:Ad.known 4=true:=nr rfl
theorem st4:Ad.isStruct 4=false:=nr rfl
theorem zr4:Ad.zeros 4=[.bool false]:=nr rfl
theorem zo4:Ad.zero1 4= .bool false:=nr rfl
theorem sz4:Ad.size 4=1:=nr rfl
theorem ty5:Ad.ty 5= .int .u8:=nr rfl
theorem kn5:Ad.known 5=true:=nr rfl
theorem st5:Ad.isStruct 5=false:=nr rfl
theorem zr5:Ad.zeros 5=[.int .u8 0]:=nr rfl
theorem zo5:Ad.zero1 5= .int .u8 0:=nr rfl
theorem sz5:Ad.size 5=1:=nr rfl
theorem ty6:Ad.ty 6= .int .u8:=nr rfl
theorem ty7:Ad.ty 7= .struct [2,3,4,6]:=nr rfl
theorem ty8:Ad.ty 8= .struct [2,3,4,6]:=nr rfl
theorem ty9:Ad.ty 9= .string:=nr rfl
theorem AOM:Ad.ty 10= .string:=nr rfl
theorem AON:Ad.ty 11= .string:=nr rfl
theorem AOO:Ad.ty 12= .int .u64:=nr rfl
theorem AOP:Ad.ty 13= .struct [9,12]:=nr rfl
theorem AOQ:Ad.ty 14= .struct [9,12]:=nr rfl
theorem AOR:Ad.ty 15= .ptr:=nr rfl
theorem AOS:Ad.ty 16= .ptr:=nr rfl
theorem AOT:Ad.ty 17= .ptr:=nr rfl
theorem AOU:Ad.ty 18= .struct [17]:=nr rfl
theorem AOV:Ad.ty 19= .struct [17]:=nr rfl
theorem AOW:Ad.ty 21= .int .i32:=nr rfl
theorem A3J:Ad.ty 22= .slice 97:=nr rfl
theorem A9R:Ad.known 22=true:=nr rfl
theorem A9S:Ad.isStruct 22=false:=nr rfl
theorem A9T:Ad.zeros 22=[.own 97 []]:=nr rfl
theorem A9U:Ad.zero1 22= .own 97 []:=nr rfl
theorem A9V:Ad.size 22=1:=nr rfl
theorem A3K:Ad.ty 23= .slice 3:=nr rfl
theorem A3L:Ad.known 23=true:=nr rfl
theorem A9W:Ad.isStruct 23=false:=nr rfl
theorem A9X:Ad.zeros 23=[.own 3 []]:=nr rfl
theorem A9Y:Ad.zero1 23= .own 3 []:=nr rfl
theorem A3M:Ad.size 23=1:=nr rfl
theorem AOX:Ad.ty 24= .struct [22,23,23]:=nr rfl
theorem A3N:Ad.ty 25= .struct [22,23,23]:=nr rfl
theorem A9Z:Ad.known 25=true:=nr rfl
theorem A9a:Ad.isStruct 25=true:=nr rfl
theorem A9b:Ad.zeros 25=[.own 97 [],.own 3 [],.own 3 []]:=nr rfl
theorem A9c:Ad.nest 25=none:=nr rfl
theorem A9d:Ad.size 25=3:=nr rfl
theorem AOY:Ad.ty 26= .func:=nr rfl
theorem AOZ:Ad.ty 28= .func:=nr rfl
theorem A9e:Ad.ty 29= .slice 100:=nr rfl
theorem A9f:Ad.known 29=true:=nr rfl
theorem A9g:Ad.isStruct 29=false:=nr rfl
theorem A9h:Ad.zeros 29=[.own 100 []]:=nr rfl
theorem A9i:Ad.zero1 29= .own 100 []:=nr rfl
theorem A9j:Ad.size 29=1:=nr rfl
theorem AOa:Ad.ty 30= .struct [29,23,23]:=nr rfl
theorem A9k:Ad.ty 31= .struct [29,23,23]:=nr rfl
theorem A9l:Ad.known 31=true:=nr rfl
theorem A9m:Ad.isStruct 31=true:=nr rfl
theorem A9n:Ad.zeros 31=[.own 100 [],.own 3 [],.own 3 []]:=nr rfl
theorem A9o:Ad.nest 31=none:=nr rfl
theorem A9p:Ad.size 31=3:=nr rfl
theorem AOb:Ad.ty 32= .func:=nr rfl
theorem AOc:Ad.ty 33= .func:=nr rfl
theorem AOd:Ad.ty 34= .func:=nr rfl
theorem AOe:Ad.ty 35= .func:=nr rfl
theorem AOf:Ad.ty 36= .func:=nr rfl
theorem AOg:Ad.ty 38= .func:=nr rfl
theorem AOh:Ad.ty 39= .func:=nr rfl
theorem AOi:Ad.ty 40= .func:=nr rfl
theorem AOj:Ad.ty 41= .func:=nr rfl
theorem AOk:Ad.ty 42= .func:=nr rfl
theorem AOl:Ad.ty 43= .func:=nr rfl
theorem A9q:Ad.ty 44= .slice 23:=nr rfl
theorem A9r:Ad.known 44=true:=nr rfl
theorem A9s:Ad.isStruct 44=false:=nr rfl
theorem A9t:Ad.zeros 44=[.own 23 []]:=nr rfl
theorem A9u:Ad.zero1 44= .own 23 []:=nr rfl
theorem A9v:Ad.size 44=1:=nr rfl
theorem AOm:Ad.ty 45= .struct [3,3,44,44]:=nr rfl
theorem A9w:Ad.ty 46= .struct [3,3,44,44]:=nr rfl
theorem A9x:Ad.known 46=true:=nr rfl
theorem A9y:Ad.isStruct 46=true:=nr rfl
theorem A9z:Ad.zeros 46=[.int .i64 0,.int .i64 0,.own 23 [],.own 23 []]:=nr rfl
theorem AA0:Ad.nest 46=none:=nr rfl
theorem AA1:Ad.size 46=4:=nr rfl
theorem AOn:Ad.ty 47= .func:=nr rfl
theorem AOo:Ad.ty 49= .func:=nr rfl
theorem AA2:Ad.ty 50= .struct [3,3,44,44]:=nr rfl
theorem AA3:Ad.known 50=true:=nr rfl
theorem AA4:Ad.isStruct 50=true:=nr rfl
theorem AA5:Ad.zeros 50=[.int .i64 0,.int .i64 0,.own 23 [],.own 23 []]:=nr rfl
theorem AA6:Ad.nest 50=none:=nr rfl
theorem AA7:Ad.size 50=4:=nr rfl
theorem AOp:Ad.ty 51= .func:=nr rfl
theorem AOq:Ad.ty 52= .func:=nr rfl
theorem AOr:Ad.ty 53= .func:=nr rfl
theorem AOs:Ad.ty 54= .func:=nr rfl
theorem AOt:Ad.ty 56= .func:=nr rfl
theorem AOu:Ad.ty 57= .func:=nr rfl
theorem AOv:Ad.ty 58= .func:=nr rfl
theorem AOw:Ad.ty 59= .func:=nr rfl
theorem AOx:Ad.ty 60= .func:=nr rfl
theorem AOy:Ad.ty 61= .func:=nr rfl
theorem AOz:Ad.ty 62= .func:=nr rfl
theorem AP0:Ad.ty 63= .func:=nr rfl
theorem AP1:Ad.ty 64= .func:=nr rfl
theorem AP2:Ad.ty 65= .func:=nr rfl
theorem AP3:Ad.ty 66= .func:=nr rfl
theorem AP4:Ad.ty 67= .func:=nr rfl
theorem AP5:Ad.ty 68= .func:=nr rfl
theorem AP6:Ad.ty 69= .func:=nr rfl
theorem AP7:Ad.ty 70= .func:=nr rfl
theorem AP8:Ad.ty 72= .func:=nr rfl
theorem AP9:Ad.ty 73= .func:=nr rfl
theorem APA:Ad.ty 74= .func:=nr rfl
theorem AA8:Ad.ty 75= .slice 78:=nr rfl
theorem AA9:Ad.known 75=true:=nr rfl
theorem AAA:Ad.isStruct 75=false:=nr rfl
theorem AAB:Ad.zeros 75=[.own 78 []]:=nr rfl
theorem AAC:Ad.zero1 75= .own 78 []:=nr rfl
theorem AAD:Ad.size 75=1:=nr rfl
theorem APB:Ad.ty 76= .func:=nr rfl
theorem APC:Ad.ty 77= .struct [3,3,3,3]:=nr rfl
theorem AAE:Ad.ty 78= .struct [3,3,3,3]:=nr rfl
theorem AAF:Ad.known 78=true:=nr rfl
theorem AAG:Ad.isStruct 78=true:=nr rfl
theorem AAH:Ad.zeros 78=[.int .i64 0,.int .i64 0,.int .i64 0,.int .i64 0]:=nr rfl
theorem AAI:Ad.nest 78=none:=nr rfl
theorem AAJ:Ad.size 78=4:=nr rfl
theorem APD:Ad.ty 80= .func:=nr rfl
theorem APE:Ad.ty 81= .func:=nr rfl
theorem APF:Ad.ty 82= .func:=nr rfl
theorem APG:Ad.ty 83= .struct [3,3,44,44,3,3,44,44]:=nr rfl
theorem AAK:Ad.ty 84= .struct [3,3,44,44,3,3,44,44]:=nr rfl
theorem AAL:Ad.known 84=true:=nr rfl
theorem AAM:Ad.isStruct 84=true:=nr rfl
theorem AAN:Ad.zeros 84=[.int .i64 0,.int .i64 0,.own 23 [],.own 23 [],.int .i64 0,.int .i64 0,.own 23 [],.own 23 []]:=nr rfl
theorem AAO:Ad.nest 84=some [(0,50),(4,50)]:=nr rfl
theorem p9:Ad.foff 84 0=some 0:=nr rfl
theorem pE:Ad.foff 84 1=some 4:=nr rfl
theorem AAP:Ad.size 84=8:=nr rfl
theorem APH:Ad.ty 85= .func:=nr rfl
theorem API:Ad.ty 86= .func:=nr rfl
theorem AAQ:Ad.ty 87= .ptr:=nr rfl
theorem AAR:Ad.known 87=true:=nr rfl
theorem AAS:Ad.isStruct 87=false:=nr rfl
theorem AAT:Ad.zeros 87=[.konst (.pointer none)]:=nr rfl
theorem AAU:Ad.zero1 87= .konst (.pointer none):=nr rfl
theorem AAV:Ad.size 87=1:=nr rfl
theorem APJ:Ad.ty 88= .struct [3,3,44,44,3,3,44,44,23]:=nr rfl
theorem AAW:Ad.ty 89= .struct [3,3,44,44,3,3,44,44,23]:=nr rfl
theorem AAX:Ad.known 89=true:=nr rfl
theorem AAY:Ad.isStruct 89=true:=nr rfl
theorem AAZ:Ad.zeros 89=[.int .i64 0,.int .i64 0,.own 23 [],.own 23 [],.int .i64 0,.int .i64 0,.own 23 [],.own 23 [],.own 3 []]:=nr rfl
theorem AAa:Ad.nest 89=some [(0,50),(4,50),(8,23)]:=nr rfl
theorem pF:Ad.foff 89 0=some 0:=nr rfl
theorem pG:Ad.foff 89 1=some 4:=nr rfl
theorem pI:Ad.foff 89 2=some 8:=nr rfl
theorem AAb:Ad.size 89=9:=nr rfl
theorem APK:Ad.ty 90= .func:=nr rfl
theorem APL:Ad.ty 91= .func:=nr rfl
theorem APM:Ad.ty 92= .func:=nr rfl
theorem APN:Ad.ty 93= .func:=nr rfl
theorem APO:Ad.ty 94= .func:=nr rfl
theorem APP:Ad.ty 95= .func:=nr rfl
theorem APQ:Ad.ty 96= .func:=nr rfl
theorem A3O:Ad.ty 97= .slice 141:=nr rfl
theorem AAc:Ad.known 97=true:=nr rfl
theorem AAd:Ad.isStruct 97=false:=nr rfl
theorem AAe:Ad.zeros 97=[.own 141 []]:=nr rfl
theorem AAf:Ad.zero1 97= .own 141 []:=nr rfl
theorem AAg:Ad.size 97=1:=nr rfl
theorem APR:Ad.ty 98= .func:=nr rfl
theorem APS:Ad.ty 99= .func:=nr rfl
theorem wJ:Ad.ty 100= .slice 102:=nr rfl
theorem wK:Ad.known 100=true:=nr rfl
theorem wL:Ad.isStruct 100=false:=nr rfl
theorem wM:Ad.zeros 100=[.own 102 []]:=nr rfl
theorem wN:Ad.zero1 100= .own 102 []:=nr rfl
theorem wO:Ad.size 100=1:=nr rfl
theorem AKq:Ad.ty 101= .struct [3,3]:=nr rfl
theorem wP:Ad.ty 102= .struct [3,3]:=nr rfl
theorem wQ:Ad.known 102=true:=nr rfl
theorem wR:Ad.isStruct 102=true:=nr rfl
theorem wS:Ad.zeros 102=[.int .i64 0,.int .i64 0]:=nr rfl
theorem wT:Ad.nest 102=none:=nr rfl
theorem wU:Ad.size 102=2:=nr rfl
theorem AKr:Ad.ty 103= .func:=nr rfl
theorem AKs:Ad.ty 104= .func:=nr rfl
theorem wV:Ad.ty 105= .func:=nr rfl
theorem wW:Ad.known 105=true:=nr rfl
theorem wX:Ad.isStruct 105=false:=nr rfl
theorem wY:Ad.zeros 105=[.konst .nilFunc]:=nr rfl
theorem wZ:Ad.zero1 105= .konst .nilFunc:=nr rfl
theorem wh:Ad.size 105=1:=nr rfl
theorem AKt:Ad.ty 106= .func:=nr rfl
theorem AKu:Ad.ty 107= .func:=nr rfl
theorem wm:Ad.ty 108= .func:=nr rfl
theorem wo:Ad.known 108=true:=nr rfl
theorem wu:Ad.isStruct 108=false:=nr rfl
theorem ww:Ad.zeros 108=[.konst .nilFunc]:=nr rfl
theorem wy:Ad.zero1 108= .konst .nilFunc:=nr rfl
theorem wz:Ad.size 108=1:=nr rfl
theorem AKv:Ad.ty 109= .func:=nr rfl
theorem AKw:Ad.ty 110= .func:=nr rfl
theorem x8:Ad.ty 111= .slice 113:=nr rfl
theorem x9:Ad.known 111=true:=nr rfl
theorem xA:Ad.isStruct 111=false:=nr rfl
theorem xB:Ad.zeros 111=[.own 113 []]:=nr rfl
theorem xC:Ad.zero1 111= .own 113 []:=nr rfl
theorem xD:Ad.size 111=1:=nr rfl
theorem AKx:Ad.ty 112= .func:=nr rfl
theorem xE:Ad.ty 113= .slice 4:=nr rfl
theorem xF:Ad.known 113=true:=nr rfl
theorem xG:Ad.isStruct 113=false:=nr rfl
theorem xH:Ad.zeros 113=[.own 4 []]:=nr rfl
theorem xI:Ad.zero1 113= .own 4 []:=nr rfl
theorem xJ:Ad.size 113=1:=nr rfl
theorem AKy:Ad.ty 114= .func:=nr rfl
theorem xK:Ad.ty 115= .func:=nr rfl
theorem xL:Ad.known 115=true:=nr rfl
theorem xM:Ad.isStruct 115=false:=nr rfl
theorem xN:Ad.zeros 115=[.konst .nilFunc]:=nr rfl
theorem xO:Ad.zero1 115= .konst .nilFunc:=nr rfl
theorem xP:Ad.size 115=1:=nr rfl
theorem AKz:Ad.ty 116= .func:=nr rfl
theorem AL0:Ad.ty 117= .func:=nr rfl
theorem AL1:Ad.ty 118= .func:=nr rfl
theorem AL2:Ad.ty 119= .func:=nr rfl
theorem AL3:Ad.ty 120= .func:=nr rfl
theorem xQ:Ad.ty 121= .func:=nr rfl
theorem xR:Ad.known 121=true:=nr rfl
theorem xS:Ad.isStruct 121=false:=nr rfl
theorem xU:Ad.zeros 121=[.konst .nilFunc]:=nr rfl
theorem xV:Ad.zero1 121= .konst .nilFunc:=nr rfl
theorem xW:Ad.size 121=1:=nr rfl
theorem AL4:Ad.ty 122= .func:=nr rfl
theorem AL5:Ad.ty 123= .func:=nr rfl
theorem xX:Ad.ty 124= .func:=nr rfl
theorem xY:Ad.known 124=true:=nr rfl
theorem xZ:Ad.isStruct 124=false:=nr rfl
theorem xc:Ad.zeros 124=[.konst .nilFunc]:=nr rfl
theorem xe:Ad.zero1 124= .konst .nilFunc:=nr rfl
theorem xf:Ad.size 124=1:=nr rfl
theorem AL6:Ad.ty 125= .func:=nr rfl
theorem AL7:Ad.ty 126= .func:=nr rfl
theorem AL8:Ad.ty 127= .func:=nr rfl
theorem AL9:Ad.ty 128= .func:=nr rfl
theorem xg:Ad.ty 129= .int .u64:=nr rfl
theorem xh:Ad.known 129=true:=nr rfl
theorem xk:Ad.isStruct 129=false:=nr rfl
theorem xm:Ad.zeros 129=[.int .u64 0]:=nr rfl
theorem xn:Ad.zero1 129= .int .u64 0:=nr rfl
theorem xq:Ad.size 129=1:=nr rfl
theorem ALA:Ad.ty 130= .func:=nr rfl
theorem ALB:Ad.ty 131= .func:=nr rfl
theorem ALC:Ad.ty 132= .func:=nr rfl
theorem ALD:Ad.ty 133= .func:=nr rfl
theorem xu:Ad.ty 134= .slice 44:=nr rfl
theorem xw:Ad.known 134=true:=nr rfl
theorem xx:Ad.isStruct 134=false:=nr rfl
theorem xy:Ad.zeros 134=[.own 44 []]:=nr rfl
theorem xz:Ad.zero1 134= .own 44 []:=nr rfl
theorem y5:Ad.size 134=1:=nr rfl
theorem ALE:Ad.ty 136= .func:=nr rfl
theorem ALF:Ad.ty 137= .func:=nr rfl
theorem ALG:Ad.ty 138= .func:=nr rfl
theorem ALH:Ad.ty 139= .func:=nr rfl
theorem ALI:Ad.ty 140= .func:=nr rfl
theorem pJ:Ad.ty 141= .struct [3,3]:=nr rfl
theorem y7:Ad.known 141=true:=nr rfl
theorem y8:Ad.isStruct 141=true:=nr rfl
theorem y9:Ad.zeros 141=[.int .i64 0,.int .i64 0]:=nr rfl
theorem yA:Ad.nest 141=none:=nr rfl
theorem yB:Ad.size 141=2:=nr rfl
theorem ALJ:Ad.ty 142= .func:=nr rfl
theorem ALK:Ad.ty 143= .func:=nr rfl
theorem ALM:Ad.ty 144= .func:=nr rfl
theorem ALN:Ad.ty 145= .func:=nr rfl
theorem yC:Ad.ty 146= .map 102 102:=nr rfl
theorem ALO:Ad.ty 147= .func:=nr rfl
theorem ALP:Ad.ty 148= .func:=nr rfl
theorem ALQ:Ad.ty 149= .func:=nr rfl
theorem yD:Ad.ty 150= .func:=nr rfl
theorem yE:Ad.known 150=true:=nr rfl
theorem yF:Ad.isStruct 150=false:=nr rfl
theorem yG:Ad.zeros 150=[.konst .nilFunc]:=nr rfl
theorem yH:Ad.zero1 150= .konst .nilFunc:=nr rfl
theorem yI:Ad.size 150=1:=nr rfl
theorem ALR:Ad.ty 151= .func:=nr rfl
theorem ALS:Ad.ty 152= .func:=nr rfl
theorem ALT:Ad.ty 153= .func:=nr rfl
theorem ALU:Ad.ty 154= .func:=nr rfl
theorem ALV:Ad.ty 155= .func:=nr rfl
theorem ALW:Ad.ty 156= .func:=nr rfl
theorem yJ:Ad.ty 157= .int .u32:=nr rfl
theorem yK:Ad.known 157=true:=nr rfl
theorem yM:Ad.isStruct 157=false:=nr rfl
theorem yN:Ad.zeros 157=[.int .u32 0]:=nr rfl
theorem yO:Ad.zero1 157= .int .u32 0:=nr rfl
theorem yP:Ad.size 157=1:=nr rfl
theorem ALX:Ad.ty 159= .func:=nr rfl
theorem yQ:Ad.ty 160= .int .u64:=nr rfl
theorem yR:Ad.known 160=true:=nr rfl
theorem yS:Ad.isStruct 160=false:=nr rfl
theorem yU:Ad.zeros 160=[.int .u64 0]:=nr rfl
theorem yV:Ad.zero1 160= .int .u64 0:=nr rfl
theorem yX:Ad.size 160=1:=nr rfl
theorem ALY:Ad.ty 162= .func:=nr rfl
theorem ALZ:Ad.ty 163= .func:=nr rfl
theorem ALa:Ad.ty 164= .func:=nr rfl
theorem ALb:Ad.ty 165= .func:=nr rfl
theorem ALc:Ad.ty 166= .func:=nr rfl
theorem ALd:Ad.ty 167= .func:=nr rfl
theorem ALe:Ad.ty 169= .func:=nr rfl
theorem ALf:Ad.ty 170= .func:=nr rfl
theorem yY:Ad.ty 171= .func:=nr rfl
theorem yZ:Ad.known 171=true:=nr rfl
theorem yc:Ad.isStruct 171=false:=nr rfl
theorem yf:Ad.zeros 171=[.konst .nilFunc]:=nr rfl
theorem yg:Ad.zero1 171= .konst .nilFunc:=nr rfl
theorem yh:Ad.size 171=1:=nr rfl
theorem yj:Ad.ty 172= .func:=nr rfl
theorem yl:Ad.known 172=true:=nr rfl
theorem ym:Ad.isStruct 172=false:=nr rfl
theorem yn:Ad.zeros 172=[.konst .nilFunc]:=nr rfl
theorem yo:Ad.zero1 172= .konst .nilFunc:=nr rfl
theorem yt:Ad.size 172=1:=nr rfl
theorem ALg:Ad.ty 173= .func:=nr rfl
theorem ALh:Ad.ty 175= .func:=nr rfl
theorem ALi:Ad.ty 176= .func:=nr rfl
theorem ALj:Ad.ty 177= .func:=nr rfl
theorem yu:Ad.ty 178= .int .i64:=nr rfl
theorem yw:Ad.known 178=true:=nr rfl
theorem yx:Ad.isStruct 178=false:=nr rfl
theorem yz:Ad.zeros 178=[.int .i64 0]:=nr rfl
theorem z8:Ad.zero1 178= .int .i64 0:=nr rfl
theorem zA:Ad.size 178=1:=nr rfl
theorem ALk:Ad.ty 180= .func:=nr rfl
theorem ALl:Ad.ty 181= .func:=nr rfl
theorem ALm:Ad.ty 182= .func:=nr rfl
theorem ALn:Ad.ty 183= .func:=nr rfl
theorem ALo:Ad.ty 184= .func:=nr rfl
theorem ALp:Ad.ty 185= .func:=nr rfl
theorem zC:Ad.ty 186= .int .u64:=nr rfl
theorem zD:Ad.known 186=true:=nr rfl
theorem zF:Ad.isStruct 186=false:=nr rfl
theorem zG:Ad.zeros 186=[.int .u64 0]:=nr rfl
theorem zH:Ad.zero1 186= .int .u64 0:=nr rfl
theorem zI:Ad.size 186=1:=nr rfl
theorem ALq:Ad.ty 187= .func:=nr rfl
theorem ALr:Ad.ty 188= .func:=nr rfl
theorem ALs:Ad.ty 189= .func:=nr rfl
theorem zJ:Ad.ty 190= .ptr:=nr rfl
theorem zK:Ad.known 190=true:=nr rfl
theorem zL:Ad.isStruct 190=false:=nr rfl
theorem zM:Ad.zeros 190=[.konst (.pointer none)]:=nr rfl
theorem zN:Ad.zero1 190= .konst (.pointer none):=nr rfl
theorem zO:Ad.size 190=1:=nr rfl
theorem ALt:Ad.ty 191= .func:=nr rfl
theorem ALu:Ad.ty 192= .func:=nr rfl
theorem ALv:Ad.ty 193= .ptr:=nr rfl
theorem ALw:Ad.ty 195= .func:=nr rfl
theorem ALx:Ad.ty 196= .func:=nr rfl
theorem ALy:Ad.ty 197= .struct [17,17,17,9]:=nr rfl
theorem ALz:Ad.ty 198= .struct [17,17,17,9]:=nr rfl
theorem AM0:Ad.ty 202= .func:=nr rfl
theorem AM1:Ad.ty 203= .int .u8:=nr rfl
theorem AM2:Ad.ty 204= .int .u8:=nr rfl
theorem AM3:Ad.ty 205= .func:=nr rfl
theorem AM4:Ad.ty 206= .ptr:=nr rfl
theorem AM5:Ad.ty 207= .int .i32:=nr rfl
theorem AM6:Ad.ty 208= .int .i32:=nr rfl
theorem AM7:Ad.ty 209= .struct [12,12,157,203,5,5,204,205,206,207,208]:=nr rfl
theorem AM8:Ad.ty 210= .struct [12,12,157,203,5,5,204,205,206,207,208]:=nr rfl
theorem le3:lends 3=false:=nr rfl
theorem le4:lends 4=false:=nr rfl
theorem le5:lends 5=false:=nr rfl
theorem le6:lends 6=false:=nr rfl
theorem le7:lends 7=false:=nr rfl
theorem le8:lends 8=false:=nr rfl
theorem le9:lends 9=false:=nr rfl
theorem AAh:lends 10=false:=nr rfl
theorem AAi:lends 11=false:=nr rfl
theorem AAj:lends 12=false:=nr rfl
theorem AAk:lends 13=false:=nr rfl
theorem AAl:lends 14=false:=nr rfl
theorem AAm:lends 15=false:=nr rfl
theorem AAn:lends 16=false:=nr rfl
theorem AAo:lends 17=true:=nr rfl
theorem AAp:lends 18=true:=nr rfl
theorem AAq:lends 19=false:=nr rfl
theorem AAr:lends 20=false:=nr rfl
theorem AAs:lends 21=false:=nr rfl
theorem AAt:lends 22=false:=nr rfl
theorem AAu:lends 23=false:=nr rfl
theorem AAv:lends 24=false:=nr rfl
theorem AAw:lends 25=false:=nr rfl
theorem AAx:lends 26=false:=nr rfl
theorem AAy:lends 27=false:=nr rfl
theorem AAz:lends 28=true:=nr rfl
theorem AB0:lends 29=false:=nr rfl
theorem AB1:lends 30=false:=nr rfl
theorem AB2:lends 31=false:=nr rfl
theorem AB3:lends 32=false:=nr rfl
theorem AB4:lends 33=false:=nr rfl
theorem AB5:lends 34=false:=nr rfl
theorem AB6:lends 35=false:=nr rfl
theorem AB7:lends 36=false:=nr rfl
theorem AB8:lends 37=false:=nr rfl
theorem AB9:lends 38=false:=nr rfl
theorem ABA:lends 39=false:=nr rfl
theorem ABB:lends 40=false:=nr rfl
theorem ABC:lends 41=false:=nr rfl
theorem ABD:lends 42=false:=nr rfl
theorem ABE:lends 43=false:=nr rfl
theorem ABF:lends 44=false:=nr rfl
theorem ABG:lends 45=false:=nr rfl
theorem ABH:lends 46=false:=nr rfl
theorem ABJ:lends 47=false:=nr rfl
theorem ABK:lends 48=true:=nr rfl
theorem ABL:lends 49=false:=nr rfl
theorem ABM:lends 50=false:=nr rfl
theorem ABN:lends 51=false:=nr rfl
theorem ABO:lends 52=false:=nr rfl
theorem ABP:lends 53=false:=nr rfl
theorem ABQ:lends 54=false:=nr rfl
theorem ABR:lends 55=false:=nr rfl
theorem ABS:lends 56=false:=nr rfl
theorem ABT:lends 57=false:=nr rfl
theorem ABU:lends 58=false:=nr rfl
theorem ABV:lends 59=false:=nr rfl
theorem ABW:lends 60=false:=nr rfl
theorem ABX:lends 61=true:=nr rfl
theorem ABY:lends 62=false:=nr rfl
theorem ABZ:lends 63=true:=nr rfl
theorem ABa:lends 64=false:=nr rfl
theorem ABb:lends 65=false:=nr rfl
theorem ABc:lends 66=false:=nr rfl
theorem ABd:lends 67=false:=nr rfl
theorem ABe:lends 68=false:=nr rfl
theorem ABf:lends 69=false:=nr rfl
theorem ABg:lends 70=false:=nr rfl
theorem ABh:lends 71=false:=nr rfl
theorem ABi:lends 72=false:=nr rfl
theorem ABj:lends 73=false:=nr rfl
theorem ABk:lends 74=false:=nr rfl
theorem ABl:lends 75=false:=nr rfl
theorem ABm:lends 76=false:=nr rfl
theorem ABn:lends 77=false:=nr rfl
theorem ABo:lends 78=false:=nr rfl
theorem ABp:lends 79=false:=nr rfl
theorem ABq:lends 80=false:=nr rfl
theorem ABr:lends 81=false:=nr rfl
theorem ABs:lends 82=false:=nr rfl
theorem ABt:lends 83=false:=nr rfl
theorem ABu:lends 84=false:=nr rfl
theorem ABv:lends 85=false:=nr rfl
theorem ABw:lends 86=false:=nr rfl
theorem ABx:lends 87=false:=nr rfl
theorem ABy:lends 88=false:=nr rfl
theorem ABz:lends 89=false:=nr rfl
theorem AC0:lends 90=false:=nr rfl
theorem AC1:lends 91=false:=nr rfl
theorem AC2:lends 92=false:=nr rfl
theorem AC3:lends 93=false:=nr rfl
theorem AC4:lends 94=false:=nr rfl
theorem AC5:lends 95=false:=nr rfl
theorem AC6:lends 96=false:=nr rfl
theorem AC7:lends 97=true:=nr rfl
theorem AC8:lends 98=false:=nr rfl
theorem AC9:lends 99=false:=nr rfl
theorem zP:lends 100=false:=nr rfl
theorem zQ:lends 101=false:=nr rfl
theorem zR:lends 102=false:=nr rfl
theorem pK:lends 103=false:=nr rfl
theorem zS:lends 104=false:=nr rfl
theorem zT:lends 105=false:=nr rfl
theorem pM:lends 106=false:=nr rfl
theorem zU:lends 107=false:=nr rfl
theorem zV:lends 108=true:=nr rfl
theorem zW:lends 109=false:=nr rfl
theorem zX:lends 110=false:=nr rfl
theorem zY:lends 111=false:=nr rfl
theorem zZ:lends 112=false:=nr rfl
theorem za:lends 113=false:=nr rfl
theorem zb:lends 114=false:=nr rfl
theorem ze:lends 115=false:=nr rfl
theorem zf:lends 116=false:=nr rfl
theorem zg:lends 117=false:=nr rfl
theorem zh:lends 118=false:=nr rfl
theorem zi:lends 119=false:=nr rfl
theorem zk:lends 120=false:=nr rfl
theorem zm:lends 121=false:=nr rfl
theorem zn:lends 122=false:=nr rfl
theorem zo:lends 123=false:=nr rfl
theorem zq:lends 124=false:=nr rfl
theorem zt:lends 125=false:=nr rfl
theorem zu:lends 126=false:=nr rfl
theorem zw:lends 127=true:=nr rfl
theorem zx:lends 128=false:=nr rfl
theorem zy:lends 129=false:=nr rfl
theorem zz:lends 130=false:=nr rfl
theorem A00:lends 131=false:=nr rfl
theorem pO:lends 132=false:=nr rfl
theorem A01:lends 133=false:=nr rfl
theorem A02:lends 134=false:=nr rfl
theorem A03:lends 135=false:=nr rfl
theorem A04:lends 136=false:=nr rfl
theorem A05:lends 137=false:=nr rfl
theorem A06:lends 138=false:=nr rfl
theorem A07:lends 139=false:=nr rfl
theorem A08:lends 140=false:=nr rfl
theorem A09:lends 141=false:=nr rfl
theorem A0A:lends 142=false:=nr rfl
theorem A0B:lends 143=false:=nr rfl
theorem A0C:lends 144=false:=nr rfl
theorem A0D:lends 145=false:=nr rfl
theorem A0E:lends 146=false:=nr rfl
theorem A0F:lends 147=false:=nr rfl
theorem A0G:lends 148=false:=nr rfl
theorem A0H:lends 149=false:=nr rfl
theorem A0I:lends 150=false:=nr rfl
theorem A0J:lends 151=false:=nr rfl
theorem A0K:lends 152=false:=nr rfl
theorem A0L:lends 153=false:=nr rfl
theorem A0M:lends 154=false:=nr rfl
theorem A0N:lends 155=false:=nr rfl
theorem A0O:lends 156=false:=nr rfl
theorem A0P:lends 157=false:=nr rfl
theorem A0Q:lends 158=false:=nr rfl
theorem A0R:lends 159=false:=nr rfl
theorem A0S:lends 160=false:=nr rfl
theorem A0T:lends 161=false:=nr rfl
theorem A0U:lends 162=false:=nr rfl
theorem A0V:lends 163=false:=nr rfl
theorem A0W:lends 164=false:=nr rfl
theorem A0X:lends 165=false:=nr rfl
theorem A0Y:lends 166=false:=nr rfl
theorem A0Z:lends 167=false:=nr rfl
theorem A0a:lends 168=false:=nr rfl
theorem A0b:lends 169=false:=nr rfl
theorem A0c:lends 170=false:=nr rfl
theorem A0d:lends 171=false:=nr rfl
theorem A0e:lends 172=false:=nr rfl
theorem A0f:lends 173=false:=nr rfl
theorem A0g:lends 174=false:=nr rfl
theorem A0h:lends 175=false:=nr rfl
theorem A0i:lends 176=false:=nr rfl
theorem A0j:lends 177=false:=nr rfl
theorem A0k:lends 178=false:=nr rfl
theorem A0l:lends 179=false:=nr rfl
theorem A0m:lends 180=false:=nr rfl
theorem A0n:lends 181=false:=nr rfl
theorem A0o:lends 182=false:=nr rfl
theorem A0p:lends 183=false:=nr rfl
theorem A0q:lends 184=false:=nr rfl
theorem A0r:lends 185=false:=nr rfl
theorem A0s:lends 186=false:=nr rfl
theorem A0t:lends 187=false:=nr rfl
theorem A0u:lends 188=false:=nr rfl
theorem A0v:lends 189=false:=nr rfl
theorem A0w:lends 190=false:=nr rfl
theorem A0x:lends 191=false:=nr rfl
theorem A0y:lends 192=false:=nr rfl
theorem A0z:lends 193=false:=nr rfl
theorem A10:lends 194=false:=nr rfl
theorem A11:lends 195=false:=nr rfl
theorem A12:lends 196=false:=nr rfl
theorem A13:lends 197=false:=nr rfl
theorem A14:lends 198=false:=nr rfl
theorem A15:lends 199=false:=nr rfl
theorem A16:lends 200=false:=nr rfl
theorem A17:lends 201=false:=nr rfl
theorem A18:lends 202=false:=nr rfl
theorem A19:lends 203=false:=nr rfl
theorem A1A:lends 204=false:=nr rfl
theorem A1B:lends 205=false:=nr rfl
theorem A1C:lends 206=false:=nr rfl
set_option maxRecDepth 100000 in
theorem ul:Br Try.prog Ad:=A1u (by kernel_rfl)
theorem mixed:Try.prog.follows .mixedOrders=true:=by kernel_rfl
noncomputable def Y0:Dv.Sys:={P:=Try.prog,T:=Ad,lends:=lends,base:=fun _ _ _=>none}
theorem AIE:Dv.Sys.Ok Y0:=⟨ul,mixed,fun _ _ _ _ _ h=>by cases h⟩
theorem AIF(T:Tys)(s:St)(t:TypeId):ev T s t (.const .nilFunc)=some (.konst .nilFunc):=nr rfl
theorem AIG(T:Tys)(s:St)(t:TypeId):ev T s t (.const .nilIface)=some (.konst .nilIface):=nr rfl
theorem AIH(T:Tys)(s:St)(t:TypeId):ev T s t (.const (.pointer none))=some (.konst (.pointer none)):=nr rfl
theorem y0T:Y0.T=Ad:=nr rfl
theorem y0L:Y0.lends=lends:=nr rfl
set_option maxRecDepth 10000 in
set_option linter.defProp false in
def ACA:=
 And.intro @y0T (
 And.intro @y0L (
 And.intro @ty3 (
 And.intro @ty4 (
 And.intro @ty5 (
 And.intro @A3J (
 And.intro @A3K (
 And.intro @A3N (
 And.intro @A9e (
 And.intro @A9k (
 And.intro @A9q (
 And.intro @A9w (
 And.intro @AA2 (
 And.intro @AA8 (
 And.intro @AAE (
 And.intro @AAK (
 And.intro @AAQ (
 And.intro @AAW (
 And.intro @A3O (
 And.intro @wJ (
 And.intro @wP (
 And.intro @wV (
 And.intro @wm (
 And.intro @x8 (
 And.intro @xE (
 And.intro @xK (
 And.intro @xQ (
 And.intro @xX (
 And.intro @xg (
 And.intro @xu (
 And.intro @pJ (
 And.intro @yC (
 And.intro @yD (
 And.intro @yJ (
 And.intro @yQ (
 And.intro @yY (
 And.intro @yj (
 And.intro @yu (
 And.intro @zC (
 And.intro @zJ (
 And.intro @kn3 (
 And.intro @st3 (
 And.intro @sz3 (
 And.intro @zr3 (
 And.intro @kn4 (
 And.intro @st4 (
 And.intro @sz4 (
 And.intro @zr4 (
 And.intro @kn5 (
 And.intro @st5 (
 And.intro @sz5 (
 And.intro @zr5 (
 And.intro @A9R (
 And.intro @A9S (
 And.intro @A9V (
 And.intro @A9T (
 And.intro @A3L (
 And.intro @A9W (
 And.intro @A3M (
 And.intro @A9X (
 And.intro @A9Z (
 And.intro @A9a (
 And.intro @A9d (
 And.intro @A9b (
 And.intro @A9f (
 And.intro @A9g (
 And.intro @A9j (
 And.intro @A9h (
 And.intro @A9l (
 And.intro @A9m (
 And.intro @A9p (
 And.intro @A9n (
 And.intro @A9r (
 And.intro @A9s (
 And.intro @A9v (
 And.intro @A9t (
 And.intro @A9x (
 And.intro @A9y (
 And.intro @AA1 (
 And.intro @A9z (
 And.intro @AA3 (
 And.intro @AA4 (
 And.intro @AA7 (
 And.intro @AA5 (
 And.intro @AA9 (
 And.intro @AAA (
 And.intro @AAD (
 And.intro @AAB (
 And.intro @AAF (
 And.intro @AAG (
 And.intro @AAJ (
 And.intro @AAH (
 And.intro @AAL (
 And.intro @AAM (
 And.intro @AAP (
 And.intro @AAN (
 And.intro @AAR (
 And.intro @AAS (
 And.intro @AAV (
 And.intro @AAT (
 And.intro @AAX (
 And.intro @AAY (
 And.intro @AAb (
 And.intro @AAZ (
 And.intro @AAc (
 And.intro @AAd (
 And.intro @AAg (
 And.intro @AAe (
 And.intro @wK (
 And.intro @wL (
 And.intro @wO (
 And.intro @wM (
 And.intro @wQ (
 And.intro @wR (
 And.intro @wU (
 And.intro @wS (
 And.intro @wW (
 And.intro @wX (
 And.intro @wh (
 And.intro @wY (
 And.intro @wo (
 And.intro @wu (
 And.intro @wz (
 And.intro @ww (
 And.intro @x9 (
 And.intro @xA (
 And.intro @xD (
 And.intro @xB (
 And.intro @xF (
 And.intro @xG (
 And.intro @xJ (
 And.intro @xH (
 And.intro @xL (
 And.intro @xM (
 And.intro @xP (
 And.intro @xN (
 And.intro @xR (
 And.intro @xS (
 And.intro @xW (
 And.intro @xU (
 And.intro @xY (
 And.intro @xZ (
 And.intro @xf (
 And.intro @xc (
 And.intro @xh (
 And.intro @xk (
 And.intro @xq (
 And.intro @xm (
 And.intro @xw (
 And.intro @xx (
 And.intro @y5 (
 And.intro @xy (
 And.intro @y7 (
 And.intro @y8 (
 And.intro @yB (
 And.intro @y9 (
 And.intro @yE (
 And.intro @yF (
 And.intro @yI (
 And.intro @yG (
 And.intro @yK (
 And.intro @yM (
 And.intro @yP (
 And.intro @yN (
 And.intro @yR (
 And.intro @yS (
 And.intro @yX (
 And.intro @yU (
 And.intro @yZ (
 And.intro @yc (
 And.intro @yh (
 And.intro @yf (
 And.intro @yl (
 And.intro @ym (
 And.intro @yt (
 And.intro @yn (
 And.intro @yw (
 And.intro @yx (
 And.intro @zA (
 And.intro @yz (
 And.intro @zD (
 And.intro @zF (
 And.intro @zI (
 And.intro @zG (
 And.intro @zK (
 And.intro @zL (
 And.intro @zO (
 And.intro @zM (
 And.intro @A9c (
 And.intro @A9o (
 And.intro @AA0 (
 And.intro @AA6 (
 And.intro @AAI (
 And.intro @AAO (
 And.intro @AAa (
 And.intro @wT (
 And.intro @yA (
 And.intro @p9 (
 And.intro @pE (
 And.intro @pF (
 And.intro @pG (
 And.intro @pI (
 And.intro @zo3 (
 And.intro @zo4 (
 And.intro @zo5 (
 And.intro @A9U (
 And.intro @A9Y (
 And.intro @A9i (
 And.intro @A9u (
 And.intro @AAC (
 And.intro @AAU (
 And.intro @AAf (
 And.intro @wN (
 And.intro @wZ (
 And.intro @wy (
 And.intro @xC (
 And.intro @xI (
 And.intro @xO (
 And.intro @xV (
 And.intro @xe (
 And.intro @xn (
 And.intro @xz (
 And.intro @yH (
 And.intro @yO (
 And.intro @yV (
 And.intro @yg (
 And.intro @yo (
 And.intro @z8 (
 And.intro @zH (
 And.intro @zN (
 And.intro @le3 (
 And.intro @le4 (
 And.intro @le5 (
 And.intro @le6 (
 And.intro @le7 (
 And.intro @le8 (
 And.intro @le9 (
 And.intro @AAh (
 And.intro @AAi (
 And.intro @AAj (
 And.intro @AAk (
 And.intro @AAl (
 And.intro @AAm (
 And.intro @AAn (
 And.intro @AAo (
 And.intro @AAp (
 And.intro @AAq (
 And.intro @AAr (
 And.intro @AAs (
 And.intro @AAt (
 And.intro @AAu (
 And.intro @AAv (
 And.intro @AAw (
 And.intro @AAx (
 And.intro @AAy (
 And.intro @AAz (
 And.intro @AB0 (
 And.intro @AB1 (
 And.intro @AB2 (
 And.intro @AB3 (
 And.intro @AB4 (
 And.intro @AB5 (
 And.intro @AB6 (
 And.intro @AB7 (
 And.intro @AB8 (
 And.intro @AB9 (
 And.intro @ABA (
 And.intro @ABB (
 And.intro @ABC (
 And.intro @ABD (
 And.intro @ABE (
 And.intro @ABF (
 And.intro @ABG (
 And.intro @ABH (
 And.intro @ABJ (
 And.intro @ABK (
 And.intro @ABL (
 And.intro @ABM (
 And.intro @ABN (
 And.intro @ABO (
 And.intro @ABP (
 And.intro @ABQ (
 And.intro @ABR (
 And.intro @ABS (
 And.intro @ABT (
 And.intro @ABU (
 And.intro @ABV (
 And.intro @ABW (
 And.intro @ABX (
 And.intro @ABY (
 And.intro @ABZ (
 And.intro @ABa (
 And.intro @ABb (
 And.intro @ABc (
 And.intro @ABd (
 And.intro @ABe (
 And.intro @ABf (
 And.intro @ABg (
 And.intro @ABh (
 And.intro @ABi (
 And.intro @ABj (
 And.intro @ABk (
 And.intro @ABl (
 And.intro @ABm (
 And.intro @ABn (
 And.intro @ABo (
 And.intro @ABp (
 And.intro @ABq (
 And.intro @ABr (
 And.intro @ABs (
 And.intro @ABt (
 And.intro @ABu (
 And.intro @ABv (
 And.intro @ABw (
 And.intro @ABx (
 And.intro @ABy (
 And.intro @ABz (
 And.intro @AC0 (
 And.intro @AC1 (
 And.intro @AC2 (
 And.intro @AC3 (
 And.intro @AC4 (
 And.intro @AC5 (
 And.intro @AC6 (
 And.intro @AC7 (
 And.intro @AC8 (
 And.intro @AC9 (
 And.intro @zP (
 And.intro @zQ (
 And.intro @zR (
 And.intro @pK (
 And.intro @zS (
 And.intro @zT (
 And.intro @pM (
 And.intro @zU (
 And.intro @zV (
 And.intro @zW (
 And.intro @zX (
 And.intro @zY (
 And.intro @zZ (
 And.intro @za (
 And.intro @zb (
 And.intro @ze (
 And.intro @zf (
 And.intro @zg (
 And.intro @zh (
 And.intro @zi (
 And.intro @zk (
 And.intro @zm (
 And.intro @zn (
 And.intro @zo (
 And.intro @zq (
 And.intro @zt (
 And.intro @zu (
 And.intro @zw (
 And.intro @zx (
 And.intro @zy (
 And.intro @zz (
 And.intro @A00 (
 And.intro @pO (
 And.intro @A01 (
 And.intro @A02 (
 And.intro @A03 (
 And.intro @A04 (
 And.intro @A05 (
 And.intro @A06 (
 And.intro @A07 (
 And.intro @A08 (
 And.intro @A09 (
 And.intro @A0A (
 And.intro @A0B (
 And.intro @A0C (
 And.intro @A0D (
 And.intro @A0E (
 And.intro @A0F (
 And.intro @A0G (
 And.intro @A0H (
 And.intro @A0I (
 And.intro @A0J (
 And.intro @A0K (
 And.intro @A0L (
 And.intro @A0M (
 And.intro @A0N (
 And.intro @A0O (
 And.intro @A0P (
 And.intro @A0Q (
 And.intro @A0R (
 And.intro @A0S (
 And.intro @A0T (
 And.intro @A0U (
 And.intro @A0V (
 And.intro @A0W (
 And.intro @A0X (
 And.intro @A0Y (
 And.intro @A0Z (
 And.intro @A0a (
 And.intro @A0b (
 And.intro @A0c (
 And.intro @A0d (
 And.intro @A0e (
 And.intro @A0f (
 And.intro @A0g (
 And.intro @A0h (
 And.intro @A0i (
 And.intro @A0j (
 And.intro @A0k (
 And.intro @A0l (
 And.intro @A0m (
 And.intro @A0n (
 And.intro @A0o (
 And.intro @A0p (
 And.intro @A0q (
 And.intro @A0r (
 And.intro @A0s (
 And.intro @A0t (
 And.intro @A0u (
 And.intro @A0v (
 And.intro @A0w (
 And.intro @A0x (
 And.intro @A0y (
 And.intro @A0z (
 And.intro @A10 (
 And.intro @A11 (
 And.intro @A12 (
 And.intro @A13 (
 And.intro @A14 (
 And.intro @A15 (
 And.intro @A16 (
 And.intro @A17 (
 And.intro @A18 (
 And.intro @A19 (
 And.intro @A1A (
 And.intro @A1B (@A1C)))))))))))))))))))))))))))))))))))))))))))))))))))))))))))))))))))))))))))))))))))))))))))))))))))))))))))))))))))))))))))))))))))))))))))))))))))))))))))))))))))))))))))))))))))))))))))))))))))))))))))))))))))))))))))))))))))))))))))))))))))))))))))))))))))))))))))))))))))))))))))))))))))))))))))))))))))))))))))))))))))))))))))))))))))))))))))))))))))))))))))))))))))))))))))))))))))))))))))))))))))))))))))))))))))))))))))))))))
def pQ:SC:= .seq (.ops [⟨(some 2),(.assign (.const (.slice none 0 0))),23,none⟩]) (.seq (.seq (.ops [⟨(some 3),(.move (.tmp 0)),23,none⟩,⟨(some 4),(.binOp .eql 23 (.tmp 3) (.const (.slice none 0 0)) 23),4,none⟩]) (.cond (.tmp 4) (.seq (.ops [⟨(some 2),(.assign (.const (.slice none 0 0))),23,none⟩]) .ret) .skip)) (.seq (.ops [⟨(some 5),(.buildSlice 23 0 #[]),23,none⟩,⟨(some 6),(.move (.tmp 0)),23,none⟩,⟨(some 7),(.call ⟨(.builtin .append), #[(.tmp 5),(.tmp 6)], #[23,23]⟩),23,none⟩,⟨(some 2),(.assign (.tmp 7)),23,none⟩]) .ret))
theorem ik:Try.f126.body.map (Be lends)=some pQ:=by kernel_rfl
theorem A1D:Bu Try.f126 1=true:=by kernel_rfl
theorem gI(A:Option Addr)(c:Nat):Y0.call 126 [.konst (.slice A 0 c)] []=some (.own 3 [],[]):=by
 refine Ab (Y:=Y0) rfl Try.func126 A1D ik ?_;show Bo Y0.env pQ (fin Ad 0 [ResultVar.tmp 2] _) _
 unfold pQ
 cases A<;>simp only [↓AP,AC,ACA,implies_true,Option.bind_some,Option.map_some,Option.isSome_some,↓reduceIte,Nat.reduceEqDiff,Nat.reduceLT,Nat.reduceLeDiff,Nat.reduceAdd,Nat.reduceMul,Nat.reduceMod,Nat.reduceSub,List.contains_cons,List.contains_nil,Nat.reduceBEq,List.getD_cons_zero,List.getD_cons_succ,List.getD_nil,List.length_cons,List.length_nil,List.size_toArray,List.toList_toArray,List.zip_cons_cons,List.zip_nil_left,List.append_nil,List.nil_append,List.cons_append,List.map_cons,List.map_nil,List.replicate_succ,List.replicate_zero,List.set_cons_zero,List.set_cons_succ,List.set_set,List.all_cons,List.any_cons,List.any_nil,List.all_nil,List.getElem?_cons_zero,List.getElem?_cons_succ,List.getElem?_nil,List.range_zero,beq_self_eq_true,Int.reduceLE,Int.reduceLT,Int.reduceEq,Int.reduceSub,Int.reduceAdd,Int.reduceToNat,Int.reduceNeg,Option.isNone_none,Option.isNone_some]
theorem um:Dv.Good Try.prog Ad 126 [.sl 3 []] [] (.own 3 []) []:=fF kn3 (fun A c=>Dv.Sys.call_good AIE (gI A c))
def pR(f:FuncId)(a l:List D):Option (D×List D):=
 match f,a,l with
 | 126,[.sl 3 []],[]=>some (.own 3 [],[])
 | _,_,_=>none
theorem uo: ∀f a l r outs,pR f a l=some (r,outs)→Dv.Good Try.prog Ad f a l r outs:=by
 intro f a l r outs h;unfold pR at h
 split at h
 ·simp only [Option.some.injEq,Prod.mk.injEq]at h;obtain⟨rfl,rfl⟩:=h;exact um
 ·cases h
theorem pU: ∀zs:List Int,zs.length<4611686018427387904→Dv.Good Try.prog Ad 127 [.vw [100000] 0 0] [.own 3 (Ca zs)] (.tup []) [.own 3 (Ca (JD zs))]:=fun zs h=>
 kg ⟨Try.f127,Try.func127,rfl,by decide⟩ sz3 (fun blk off cap zs w h1 h2 h3=>Try.slices_Sort_int blk off cap zs w h1 h2 h3) (fun p cap w=>Try.slices_Sort_int_none p cap w) zs h
theorem gJ: ∀zs:List Int,zs.length<1099511627776→Dv.Good Try.prog Ad 160 [.clo 178 [.cptr [.sl 3 (Ca zs)]]] [] (.own 3 (Ca (JD zs))) []:=fun zs h=>
 bF ⟨Try.f160,Try.func160,rfl,by decide⟩ sz3
  (fun p ad cap w h1 h2=>callsIn_wide.1 (Go.Proofs.sv.sorted_in 5 (Nat.le_refl _) p _ [] (by decide) (by decide) w h1 h2 (.inl ⟨ad,cap,rfl,rfl⟩)))
  (fun p b off cap zs w h0 h1 h2 h3 h4=>callsIn_wide.1 (Go.Proofs.sv.sorted_in 5 (Nat.le_refl _) p _ zs (by have:maxLen=9223372036854775807:=rfl;omega) (by omega) w h1 h2 (.inr ⟨b,off,cap,rfl,h3,h4⟩))) zs h
theorem bH: ∀n:Nat,n<1099511627776→Dv.Good Try.prog Ad 119 [.konst (.slice none 0 0),.int .i64 n] [] (.own 23 []) []:=fun n h=>
 gH (ρ:=Try.laysGrow119_ren) ul Try.laysGrow119 ⟨Try.f119,Try.func119,rfl,by decide⟩ A3L A3M n h
noncomputable def Y:Dv.Sys:={P:=Try.prog,T:=Ad,lends:=lends,base:=PN (OG 119 23) (PN (PN pR (OD 127 3)) (LJ 160 178 3))}
theorem yOk:Dv.Sys.Ok Y:=⟨ul,mixed,OE (Vv bH) (OE (OE uo (Vt pU)) (SY gJ))⟩
theorem pV:Ad.ty 900013= .other:=nr rfl
theorem yT:Y.T=Ad:=nr rfl
theorem yL:Y.lends=lends:=nr rfl
set_option maxRecDepth 10000 in
set_option linter.defProp false in
def AR:=
 And.intro @pV (
 And.intro @yT (
 And.intro @yL (
 And.intro @AIF (
 And.intro @AIG (
 And.intro @AIH (
 And.intro @ty3 (
 And.intro @ty4 (
 And.intro @ty5 (
 And.intro @A3J (
 And.intro @A3K (
 And.intro @A3N (
 And.intro @A9e (
 And.intro @A9k (
 And.intro @A9q (
 And.intro @A9w (
 And.intro @AA2 (
 And.intro @AA8 (
 And.intro @AAE (
 And.intro @AAK (
 And.intro @AAQ (
 And.intro @AAW (
 And.intro @A3O (
 And.intro @wJ (
 And.intro @wP (
 And.intro @wV (
 And.intro @wm (
 And.intro @x8 (
 And.intro @xE (
 And.intro @xK (
 And.intro @xQ (
 And.intro @xX (
 And.intro @xg (
 And.intro @xu (
 And.intro @pJ (
 And.intro @yC (
 And.intro @yD (
 And.intro @yJ (
 And.intro @yQ (
 And.intro @yY (
 And.intro @yj (
 And.intro @yu (
 And.intro @zC (
 And.intro @zJ (
 And.intro @kn3 (
 And.intro @st3 (
 And.intro @sz3 (
 And.intro @zr3 (
 And.intro @kn4 (
 And.intro @st4 (
 And.intro @sz4 (
 And.intro @zr4 (
 And.intro @kn5 (
 And.intro @st5 (
 And.intro @sz5 (
 And.intro @zr5 (
 And.intro @A9R (
 And.intro @A9S (
 And.intro @A9V (
 And.intro @A9T (
 And.intro @A3L (
 And.intro @A9W (
 And.intro @A3M (
 And.intro @A9X (
 And.intro @A9Z (
 And.intro @A9a (
 And.intro @A9d (
 And.intro @A9b (
 And.intro @A9f (
 And.intro @A9g (
 And.intro @A9j (
 And.intro @A9h (
 And.intro @A9l (
 And.intro @A9m (
 And.intro @A9p (
 And.intro @A9n (
 And.intro @A9r (
 And.intro @A9s (
 And.intro @A9v (
 And.intro @A9t (
 And.intro @A9x (
 And.intro @A9y (
 And.intro @AA1 (
 And.intro @A9z (
 And.intro @AA3 (
 And.intro @AA4 (
 And.intro @AA7 (
 And.intro @AA5 (
 And.intro @AA9 (
 And.intro @AAA (
 And.intro @AAD (
 And.intro @AAB (
 And.intro @AAF (
 And.intro @AAG (
 And.intro @AAJ (
 And.intro @AAH (
 And.intro @AAL (
 And.intro @AAM (
 And.intro @AAP (
 And.intro @AAN (
 And.intro @AAR (
 And.intro @AAS (
 And.intro @AAV (
 And.intro @AAT (
 And.intro @AAX (
 And.intro @AAY (
 And.intro @AAb (
 And.intro @AAZ (
 And.intro @AAc (
 And.intro @AAd (
 And.intro @AAg (
 And.intro @AAe (
 And.intro @wK (
 And.intro @wL (
 And.intro @wO (
 And.intro @wM (
 And.intro @wQ (
 And.intro @wR (
 And.intro @wU (
 And.intro @wS (
 And.intro @wW (
 And.intro @wX (
 And.intro @wh (
 And.intro @wY (
 And.intro @wo (
 And.intro @wu (
 And.intro @wz (
 And.intro @ww (
 And.intro @x9 (
 And.intro @xA (
 And.intro @xD (
 And.intro @xB (
 And.intro @xF (
 And.intro @xG (
 And.intro @xJ (
 And.intro @xH (
 And.intro @xL (
 And.intro @xM (
 And.intro @xP (
 And.intro @xN (
 And.intro @xR (
 And.intro @xS (
 And.intro @xW (
 And.intro @xU (
 And.intro @xY (
 And.intro @xZ (
 And.intro @xf (
 And.intro @xc (
 And.intro @xh (
 And.intro @xk (
 And.intro @xq (
 And.intro @xm (
 And.intro @xw (
 And.intro @xx (
 And.intro @y5 (
 And.intro @xy (
 And.intro @y7 (
 And.intro @y8 (
 And.intro @yB (
 And.intro @y9 (
 And.intro @yE (
 And.intro @yF (
 And.intro @yI (
 And.intro @yG (
 And.intro @yK (
 And.intro @yM (
 And.intro @yP (
 And.intro @yN (
 And.intro @yR (
 And.intro @yS (
 And.intro @yX (
 And.intro @yU (
 And.intro @yZ (
 And.intro @yc (
 And.intro @yh (
 And.intro @yf (
 And.intro @yl (
 And.intro @ym (
 And.intro @yt (
 And.intro @yn (
 And.intro @yw (
 And.intro @yx (
 And.intro @zA (
 And.intro @yz (
 And.intro @zD (
 And.intro @zF (
 And.intro @zI (
 And.intro @zG (
 And.intro @zK (
 And.intro @zL (
 And.intro @zO (
 And.intro @zM (
 And.intro @A9c (
 And.intro @A9o (
 And.intro @AA0 (
 And.intro @AA6 (
 And.intro @AAI (
 And.intro @AAO (
 And.intro @AAa (
 And.intro @wT (
 And.intro @yA (
 And.intro @p9 (
 And.intro @pE (
 And.intro @pF (
 And.intro @pG (
 And.intro @pI (
 And.intro @zo3 (
 And.intro @zo4 (
 And.intro @zo5 (
 And.intro @A9U (
 And.intro @A9Y (
 And.intro @A9i (
 And.intro @A9u (
 And.intro @AAC (
 And.intro @AAU (
 And.intro @AAf (
 And.intro @wN (
 And.intro @wZ (
 And.intro @wy (
 And.intro @xC (
 And.intro @xI (
 And.intro @xO (
 And.intro @xV (
 And.intro @xe (
 And.intro @xn (
 And.intro @xz (
 And.intro @yH (
 And.intro @yO (
 And.intro @yV (
 And.intro @yg (
 And.intro @yo (
 And.intro @z8 (
 And.intro @zH (
 And.intro @zN (
 And.intro @le3 (
 And.intro @le4 (
 And.intro @le5 (
 And.intro @le6 (
 And.intro @le7 (
 And.intro @le8 (
 And.intro @le9 (
 And.intro @AAh (
 And.intro @AAi (
 And.intro @AAj (
 And.intro @AAk (
 And.intro @AAl (
 And.intro @AAm (
 And.intro @AAn (
 And.intro @AAo (
 And.intro @AAp (
 And.intro @AAq (
 And.intro @AAr (
 And.intro @AAs (
 And.intro @AAt (
 And.intro @AAu (
 And.intro @AAv (
 And.intro @AAw (
 And.intro @AAx (
 And.intro @AAy (
 And.intro @AAz (
 And.intro @AB0 (
 And.intro @AB1 (
 And.intro @AB2 (
 And.intro @AB3 (
 And.intro @AB4 (
 And.intro @AB5 (
 And.intro @AB6 (
 And.intro @AB7 (
 And.intro @AB8 (
 And.intro @AB9 (
 And.intro @ABA (
 And.intro @ABB (
 And.intro @ABC (
 And.intro @ABD (
 And.intro @ABE (
 And.intro @ABF (
 And.intro @ABG (
 And.intro @ABH (
 And.intro @ABJ (
 And.intro @ABK (
 And.intro @ABL (
 And.intro @ABM (
 And.intro @ABN (
 And.intro @ABO (
 And.intro @ABP (
 And.intro @ABQ (
 And.intro @ABR (
 And.intro @ABS (
 And.intro @ABT (
 And.intro @ABU (
 And.intro @ABV (
 And.intro @ABW (
 And.intro @ABX (
 And.intro @ABY (
 And.intro @ABZ (
 And.intro @ABa (
 And.intro @ABb (
 And.intro @ABc (
 And.intro @ABd (
 And.intro @ABe (
 And.intro @ABf (
 And.intro @ABg (
 And.intro @ABh (
 And.intro @ABi (
 And.intro @ABj (
 And.intro @ABk (
 And.intro @ABl (
 And.intro @ABm (
 And.intro @ABn (
 And.intro @ABo (
 And.intro @ABp (
 And.intro @ABq (
 And.intro @ABr (
 And.intro @ABs (
 And.intro @ABt (
 And.intro @ABu (
 And.intro @ABv (
 And.intro @ABw (
 And.intro @ABx (
 And.intro @ABy (
 And.intro @ABz (
 And.intro @AC0 (
 And.intro @AC1 (
 And.intro @AC2 (
 And.intro @AC3 (
 And.intro @AC4 (
 And.intro @AC5 (
 And.intro @AC6 (
 And.intro @AC7 (
 And.intro @AC8 (
 And.intro @AC9 (
 And.intro @zP (
 And.intro @zQ (
 And.intro @zR (
 And.intro @pK (
 And.intro @zS (
 And.intro @zT (
 And.intro @pM (
 And.intro @zU (
 And.intro @zV (
 And.intro @zW (
 And.intro @zX (
 And.intro @zY (
 And.intro @zZ (
 And.intro @za (
 And.intro @zb (
 And.intro @ze (
 And.intro @zf (
 And.intro @zg (
 And.intro @zh (
 And.intro @zi (
 And.intro @zk (
 And.intro @zm (
 And.intro @zn (
 And.intro @zo (
 And.intro @zq (
 And.intro @zt (
 And.intro @zu (
 And.intro @zw (
 And.intro @zx (
 And.intro @zy (
 And.intro @zz (
 And.intro @A00 (
 And.intro @pO (
 And.intro @A01 (
 And.intro @A02 (
 And.intro @A03 (
 And.intro @A04 (
 And.intro @A05 (
 And.intro @A06 (
 And.intro @A07 (
 And.intro @A08 (
 And.intro @A09 (
 And.intro @A0A (
 And.intro @A0B (
 And.intro @A0C (
 And.intro @A0D (
 And.intro @A0E (
 And.intro @A0F (
 And.intro @A0G (
 And.intro @A0H (
 And.intro @A0I (
 And.intro @A0J (
 And.intro @A0K (
 And.intro @A0L (
 And.intro @A0M (
 And.intro @A0N (
 And.intro @A0O (
 And.intro @A0P (
 And.intro @A0Q (
 And.intro @A0R (
 And.intro @A0S (
 And.intro @A0T (
 And.intro @A0U (
 And.intro @A0V (
 And.intro @A0W (
 And.intro @A0X (
 And.intro @A0Y (
 And.intro @A0Z (
 And.intro @A0a (
 And.intro @A0b (
 And.intro @A0c (
 And.intro @A0d (
 And.intro @A0e (
 And.intro @A0f (
 And.intro @A0g (
 And.intro @A0h (
 And.intro @A0i (
 And.intro @A0j (
 And.intro @A0k (
 And.intro @A0l (
 And.intro @A0m (
 And.intro @A0n (
 And.intro @A0o (
 And.intro @A0p (
 And.intro @A0q (
 And.intro @A0r (
 And.intro @A0s (
 And.intro @A0t (
 And.intro @A0u (
 And.intro @A0v (
 And.intro @A0w (
 And.intro @A0x (
 And.intro @A0y (
 And.intro @A0z (
 And.intro @A10 (
 And.intro @A11 (
 And.intro @A12 (
 And.intro @A13 (
 And.intro @A14 (
 And.intro @A15 (
 And.intro @A16 (
 And.intro @A17 (
 And.intro @A18 (
 And.intro @A19 (
 And.intro @A1A (
 And.intro @A1B (@A1C)))))))))))))))))))))))))))))))))))))))))))))))))))))))))))))))))))))))))))))))))))))))))))))))))))))))))))))))))))))))))))))))))))))))))))))))))))))))))))))))))))))))))))))))))))))))))))))))))))))))))))))))))))))))))))))))))))))))))))))))))))))))))))))))))))))))))))))))))))))))))))))))))))))))))))))))))))))))))))))))))))))))))))))))))))))))))))))))))))))))))))))))))))))))))))))))))))))))))))))))))))))))))))))))))))))))))))))))))))))
theorem ACB(n:Int)(h:0≤n∧n<1099511627776):Y.call 119 [.konst (.slice none 0 0),.int .i64 n] []=some (.own 23 [],[]):=Dv.Sys.call_base (Ry<|bG 119 23 n h)
theorem A3P(zs:List Int)(h:zs.length<1099511627776):Y.call 160 [.clo 178 [.cptr [.sl 3 (AQ (D.int .i64) zs)]]] []=some (.own 3 (AQ (D.int .i64) (JD zs)),[]):=Dv.Sys.call_base ((Vu 160 178 3 zs h))
theorem pW(zs:List Int)(h:zs.length<4611686018427387904):Y.call 127 [.vw [100000] 0 0] [.own 3 (AQ (D.int .i64) zs)]=some (.tup [],[.own 3 (AQ (D.int .i64) (JD zs))]):=Dv.Sys.call_base (Ry<|(bE 127 3 zs h))
theorem ku(xs:List D)(h:xs.length<1099511627776)(hs:xs.all Bf=true)(ho:Ah xs=false)(hf:(D6 (.own 3 xs)).isSome=true):Y.call 126 [.sl 3 xs] []=some (.own 3 xs,[]):=by
 cases xs with
 | nil=>exact Dv.Sys.call_base rfl
 | cons x xs=>
  refine Ab (Y:=Y) rfl Try.func126 A1D ik ?_;show Bo Y.env pQ (fin Ad 0 [ResultVar.tmp 2] _) _
  unfold pQ;have h0:0+(x::xs).length<1099511627776:=by omega
  simp only [List.length_cons,Nat.zero_add]at h0;simp only [List.all_cons,iW]at hs ho;simp only [↓AP,AC,AR,implies_true,Option.bind_some,Option.map_some,Option.isSome_some,↓reduceIte,Nat.reduceEqDiff,Nat.reduceLT,Nat.reduceLeDiff,Nat.reduceAdd,Nat.reduceMul,Nat.reduceMod,Nat.reduceSub,List.contains_cons,List.contains_nil,Nat.reduceBEq,List.getD_cons_zero,List.getD_cons_succ,List.getD_nil,List.length_cons,List.length_nil,List.size_toArray,List.toList_toArray,List.zip_cons_cons,List.zip_nil_left,List.append_nil,List.nil_append,List.cons_append,List.map_cons,List.map_nil,List.replicate_succ,List.replicate_zero,List.set_cons_zero,List.set_cons_succ,List.set_set,List.all_cons,List.any_cons,List.any_nil,List.all_nil,List.getElem?_cons_zero,List.getElem?_cons_succ,List.getElem?_nil,List.range_zero,beq_self_eq_true,Int.reduceLE,Int.reduceLT,Int.reduceEq,Int.reduceSub,Int.reduceAdd,Int.reduceToNat,Int.reduceNeg,Nat.zero_add,h0,hs,ho];simp only [ni,TD]at hf;rw [if_pos hf]
end Go.Proofs.Ytipfckompmhljaa
