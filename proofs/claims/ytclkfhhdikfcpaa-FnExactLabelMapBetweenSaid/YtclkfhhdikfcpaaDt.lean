/- The types of this seat as data, and the system of its calls. Conditions: none. -/
import Derived.Test.YtclkfhhdikfcpaaRows
import Derived.Test.YtclkfhhdikfcpaaL6
import Derived.Test.YtclkfhhdikfcpaaSv
import Derived.KernelRfl
namespace Go.Proofs.Ytclkfhhdikfcpaa
open Go Dv
set_option linter.unusedSimpArgs false
set_option maxRecDepth 100000
def jw:List Ty:=[.other,.func,.int .i64,.int .i64,.bool,.int .u8,.int .u8,.struct [2,3,4,6],.struct [2,3,4,6],.string,.string,.string,.int .u64,.struct [9,12],.struct [9,12],.ptr,.ptr,.ptr,.struct [17],.struct [17],.other,.int .i32,.slice 26,.struct [3,3,22,22],.struct [3,3,22,22],.func,.slice 3,.other,.func,.struct [3,3,22,22],.func,.func,.func,.func,.func,.func,.other,.func,.func,.slice 121,.struct [39,26,26],.struct [39,26,26],.func,.other,.func,.slice 123,.struct [45,26,26],.struct [45,26,26],.func,.func,.func,.other,.func,.func,.func,.func,.struct [3,26,3,3],.struct [3,26,3,3],.other,.func,.func,.func,.struct [3,26,3,3],.func,.func,.func,.func,.func,.slice 4,.func,.struct [3,3,22,22,3,3,22,22,68,68],.struct [3,3,22,22,3,3,22,22,68,68],.func,.func,.func,.ptr,.struct [3,3,22,22,3,3,22,22,26],.struct [3,3,22,22,3,3,22,22,26],.func,.func,.func,.func,.func,.func,.func,.func,.func,.func,.func,.func,.func,.func,.func,.func,.func,.func,.func,.other,.func,.func,.other,.func,.func,.func,.func,.func,.func,.func,.func,.func,.int .u64,.func,.func,.func,.func,.slice 22,.other,.func,.func,.func,.func,.slice 159,.func,.slice 125,.struct [3,3],.struct [3,3],.func,.func,.func,.func,.func,.func,.func,.func,.func,.slice 137,.struct [3,3,3,3],.struct [3,3,3,3],.func,.func,.func,.func,.func,.func,.map 3 3,.func,.func,.func,.func,.func,.func,.int .u32,.other,.func,.int .u64,.other,.func,.func,.func,.struct [3,3],.func,.func,.map 164 3,.other,.other,.func,.func,.func,.func,.func,.func,.func,.func,.func,.func,.func,.func,.func,.func,.func,.int .i64,.other,.func,.func,.func,.func,.func,.int .u64,.func,.func,.func,.ptr,.func,.ptr,.other,.func,.func,.struct [17,17,17,9],.struct [17,17,17,9],.other,.other,.other,.func,.int .u8,.int .u8,.func,.ptr,.int .i32,.int .i32,.struct [12,12,151,203,5,5,204,205,206,207,208],.struct [12,12,151,203,5,5,204,205,206,207,208],.func]
def nJ:List (TypeId×List (Nat×TypeId)):=[(70,[(0,29),(4,29),(8,68),(9,68)]),(71,[(0,29),(4,29),(8,68),(9,68)]),(76,[(0,29),(4,29),(8,26)]),(77,[(0,29),(4,29),(8,26)])]
def Aa:Tys:=d9 jw nJ
def lends(f:FuncId):Bool:=[16,17,30,47,49,79,88,120,128,152,213].contains f
theorem ty1:Aa.ty 1= .func:=nr rfl
theorem ty2:Aa.ty 2= .int .i64:=nr rfl
theorem zw:Aa.ty 3= .int .i64:=nr rfl
theorem kn3:Aa.known 3=true:=nr rfl
theorem st3:Aa.isStruct 3=false:=nr rfl
theorem zr3:Aa.zeros 3=[.int .i64 0]:=nr rfl
theorem zo3:Aa.zero1 3= .int .i64 0:=nr rfl
theorem sz3:Aa.size 3=1:=nr rfl
theorem ty4:Aa.ty 4= .bool:=nr rfl
theorem kn4:Aa.known 4=true:=nr rfl
theorem st4:Aa.isStruct 4=false:=nr rfl
theorem zr4:Aa.zeros 4=[.bool false]:=nr rfl
theorem zo4:Aa.zero1 4= .bool false:=nr rfl
theorem sz4:Aa.size 4=1:=nr rfl
theorem ty5:Aa.ty 5= .int .u8:=nr rfl
theorem kn5:Aa.known 5=true:=nr rfl
theorem st5:Aa.isStruct 5=false:=nr rfl
theorem zr5:Aa.zeros 5=[.int .u8 0]:=nr rfl
theorem zo5:Aa.zero1 5= .int .u8 0:=nr rfl
theorem sz5:Aa.size 5=1:=nr rfl
theorem ty6:Aa.ty 6= .int .u8:=nr rfl
theorem ty7:Aa.ty 7= .struct [2,3,4,6]:=nr rfl
theorem ty8:Aa.ty 8= .struct [2,3,4,6]:=nr rfl
theorem ty9:Aa.ty 9= .string:=nr rfl
theorem ADl:Aa.ty 10= .string:=nr rfl
theorem ADm:Aa.ty 11= .string:=nr rfl
theorem ADn:Aa.ty 12= .int .u64:=nr rfl
theorem ADo:Aa.ty 13= .struct [9,12]:=nr rfl
theorem ADp:Aa.ty 14= .struct [9,12]:=nr rfl
theorem ADq:Aa.ty 15= .ptr:=nr rfl
theorem ADr:Aa.ty 16= .ptr:=nr rfl
theorem ADs:Aa.ty 17= .ptr:=nr rfl
theorem ADt:Aa.ty 18= .struct [17]:=nr rfl
theorem ADu:Aa.ty 19= .struct [17]:=nr rfl
theorem ADv:Aa.ty 21= .int .i32:=nr rfl
theorem lT:Aa.ty 22= .slice 26:=nr rfl
theorem A2d:Aa.known 22=true:=nr rfl
theorem A2e:Aa.isStruct 22=false:=nr rfl
theorem A2f:Aa.zeros 22=[.own 26 []]:=nr rfl
theorem A2g:Aa.zero1 22= .own 26 []:=nr rfl
theorem A2h:Aa.size 22=1:=nr rfl
theorem ADw:Aa.ty 23= .struct [3,3,22,22]:=nr rfl
theorem lU:Aa.ty 24= .struct [3,3,22,22]:=nr rfl
theorem A2i:Aa.known 24=true:=nr rfl
theorem A2j:Aa.isStruct 24=true:=nr rfl
theorem A2k:Aa.zeros 24=[.int .i64 0,.int .i64 0,.own 26 [],.own 26 []]:=nr rfl
theorem A2l:Aa.nest 24=none:=nr rfl
theorem A2m:Aa.size 24=4:=nr rfl
theorem ADx:Aa.ty 25= .func:=nr rfl
theorem lV:Aa.ty 26= .slice 3:=nr rfl
theorem yI:Aa.known 26=true:=nr rfl
theorem A2n:Aa.isStruct 26=false:=nr rfl
theorem A2o:Aa.zeros 26=[.own 3 []]:=nr rfl
theorem A2p:Aa.zero1 26= .own 3 []:=nr rfl
theorem yJ:Aa.size 26=1:=nr rfl
theorem ADy:Aa.ty 28= .func:=nr rfl
theorem A2q:Aa.ty 29= .struct [3,3,22,22]:=nr rfl
theorem A2r:Aa.known 29=true:=nr rfl
theorem A2s:Aa.isStruct 29=true:=nr rfl
theorem A2t:Aa.zeros 29=[.int .i64 0,.int .i64 0,.own 26 [],.own 26 []]:=nr rfl
theorem A2u:Aa.nest 29=none:=nr rfl
theorem A2v:Aa.size 29=4:=nr rfl
theorem ADz:Aa.ty 30= .func:=nr rfl
theorem AE0:Aa.ty 31= .func:=nr rfl
theorem AE1:Aa.ty 32= .func:=nr rfl
theorem AE2:Aa.ty 33= .func:=nr rfl
theorem AE3:Aa.ty 34= .func:=nr rfl
theorem AE4:Aa.ty 35= .func:=nr rfl
theorem AE5:Aa.ty 37= .func:=nr rfl
theorem AE6:Aa.ty 38= .func:=nr rfl
theorem A2w:Aa.ty 39= .slice 121:=nr rfl
theorem A2x:Aa.known 39=true:=nr rfl
theorem A2y:Aa.isStruct 39=false:=nr rfl
theorem A2z:Aa.zeros 39=[.own 121 []]:=nr rfl
theorem A30:Aa.zero1 39= .own 121 []:=nr rfl
theorem A31:Aa.size 39=1:=nr rfl
theorem AE7:Aa.ty 40= .struct [39,26,26]:=nr rfl
theorem A32:Aa.ty 41= .struct [39,26,26]:=nr rfl
theorem A33:Aa.known 41=true:=nr rfl
theorem A34:Aa.isStruct 41=true:=nr rfl
theorem A35:Aa.zeros 41=[.own 121 [],.own 3 [],.own 3 []]:=nr rfl
theorem A36:Aa.nest 41=none:=nr rfl
theorem A37:Aa.size 41=3:=nr rfl
theorem AE8:Aa.ty 42= .func:=nr rfl
theorem AE9:Aa.ty 44= .func:=nr rfl
theorem A38:Aa.ty 45= .slice 123:=nr rfl
theorem A39:Aa.known 45=true:=nr rfl
theorem A3A:Aa.isStruct 45=false:=nr rfl
theorem A3B:Aa.zeros 45=[.own 123 []]:=nr rfl
theorem A3C:Aa.zero1 45= .own 123 []:=nr rfl
theorem A3D:Aa.size 45=1:=nr rfl
theorem AEA:Aa.ty 46= .struct [45,26,26]:=nr rfl
theorem A3E:Aa.ty 47= .struct [45,26,26]:=nr rfl
theorem A3F:Aa.known 47=true:=nr rfl
theorem A3G:Aa.isStruct 47=true:=nr rfl
theorem A3H:Aa.zeros 47=[.own 123 [],.own 3 [],.own 3 []]:=nr rfl
theorem A3I:Aa.nest 47=none:=nr rfl
theorem A3J:Aa.size 47=3:=nr rfl
theorem AEB:Aa.ty 48= .func:=nr rfl
theorem AEC:Aa.ty 49= .func:=nr rfl
theorem AED:Aa.ty 50= .func:=nr rfl
theorem AEE:Aa.ty 52= .func:=nr rfl
theorem AEF:Aa.ty 53= .func:=nr rfl
theorem AEG:Aa.ty 54= .func:=nr rfl
theorem AEH:Aa.ty 55= .func:=nr rfl
theorem AEI:Aa.ty 56= .struct [3,26,3,3]:=nr rfl
theorem A3K:Aa.ty 57= .struct [3,26,3,3]:=nr rfl
theorem A3L:Aa.known 57=true:=nr rfl
theorem A3M:Aa.isStruct 57=true:=nr rfl
theorem A3N:Aa.zeros 57=[.int .i64 0,.own 3 [],.int .i64 0,.int .i64 0]:=nr rfl
theorem A3O:Aa.nest 57=none:=nr rfl
theorem A3P:Aa.size 57=4:=nr rfl
theorem AEJ:Aa.ty 59= .func:=nr rfl
theorem AEK:Aa.ty 60= .func:=nr rfl
theorem AEL:Aa.ty 61= .func:=nr rfl
theorem A3Q:Aa.ty 62= .struct [3,26,3,3]:=nr rfl
theorem A3R:Aa.known 62=true:=nr rfl
theorem A3S:Aa.isStruct 62=true:=nr rfl
theorem A3T:Aa.zeros 62=[.int .i64 0,.own 3 [],.int .i64 0,.int .i64 0]:=nr rfl
theorem A3U:Aa.nest 62=none:=nr rfl
theorem A3V:Aa.size 62=4:=nr rfl
theorem AEM:Aa.ty 63= .func:=nr rfl
theorem AEN:Aa.ty 64= .func:=nr rfl
theorem AEO:Aa.ty 65= .func:=nr rfl
theorem AEP:Aa.ty 66= .func:=nr rfl
theorem AEQ:Aa.ty 67= .func:=nr rfl
theorem A3W:Aa.ty 68= .slice 4:=nr rfl
theorem A3X:Aa.known 68=true:=nr rfl
theorem A3Y:Aa.isStruct 68=false:=nr rfl
theorem A3Z:Aa.zeros 68=[.own 4 []]:=nr rfl
theorem A3a:Aa.zero1 68= .own 4 []:=nr rfl
theorem A3b:Aa.size 68=1:=nr rfl
theorem AER:Aa.ty 69= .func:=nr rfl
theorem AES:Aa.ty 70= .struct [3,3,22,22,3,3,22,22,68,68]:=nr rfl
theorem A3c:Aa.ty 71= .struct [3,3,22,22,3,3,22,22,68,68]:=nr rfl
theorem A3d:Aa.known 71=true:=nr rfl
theorem A3e:Aa.isStruct 71=true:=nr rfl
theorem A3f:Aa.zeros 71=[.int .i64 0,.int .i64 0,.own 26 [],.own 26 [],.int .i64 0,.int .i64 0,.own 26 [],.own 26 [],.own 4 [],.own 4 []]:=nr rfl
theorem A3g:Aa.nest 71=some [(0,29),(4,29),(8,68),(9,68)]:=nr rfl
theorem iL:Aa.foff 71 0=some 0:=nr rfl
theorem iM:Aa.foff 71 1=some 4:=nr rfl
theorem iO:Aa.foff 71 2=some 8:=nr rfl
theorem iP:Aa.foff 71 3=some 9:=nr rfl
theorem A3h:Aa.size 71=10:=nr rfl
theorem AET:Aa.ty 72= .func:=nr rfl
theorem AEU:Aa.ty 73= .func:=nr rfl
theorem AEV:Aa.ty 74= .func:=nr rfl
theorem A3i:Aa.ty 75= .ptr:=nr rfl
theorem A3j:Aa.known 75=true:=nr rfl
theorem A3k:Aa.isStruct 75=false:=nr rfl
theorem A3l:Aa.zeros 75=[.konst (.pointer none)]:=nr rfl
theorem A3m:Aa.zero1 75= .konst (.pointer none):=nr rfl
theorem A3n:Aa.size 75=1:=nr rfl
theorem AEW:Aa.ty 76= .struct [3,3,22,22,3,3,22,22,26]:=nr rfl
theorem A3o:Aa.ty 77= .struct [3,3,22,22,3,3,22,22,26]:=nr rfl
theorem A3p:Aa.known 77=true:=nr rfl
theorem A3q:Aa.isStruct 77=true:=nr rfl
theorem A3r:Aa.zeros 77=[.int .i64 0,.int .i64 0,.own 26 [],.own 26 [],.int .i64 0,.int .i64 0,.own 26 [],.own 26 [],.own 3 []]:=nr rfl
theorem A3s:Aa.nest 77=some [(0,29),(4,29),(8,26)]:=nr rfl
theorem iQ:Aa.foff 77 0=some 0:=nr rfl
theorem iR:Aa.foff 77 1=some 4:=nr rfl
theorem iT:Aa.foff 77 2=some 8:=nr rfl
theorem A3t:Aa.size 77=9:=nr rfl
theorem AEX:Aa.ty 78= .func:=nr rfl
theorem AEY:Aa.ty 79= .func:=nr rfl
theorem AEZ:Aa.ty 80= .func:=nr rfl
theorem AEa:Aa.ty 81= .func:=nr rfl
theorem AEb:Aa.ty 82= .func:=nr rfl
theorem AEc:Aa.ty 83= .func:=nr rfl
theorem AEd:Aa.ty 84= .func:=nr rfl
theorem AEe:Aa.ty 85= .func:=nr rfl
theorem AEf:Aa.ty 86= .func:=nr rfl
theorem A3u:Aa.ty 87= .func:=nr rfl
theorem A3v:Aa.known 87=true:=nr rfl
theorem A3w:Aa.isStruct 87=false:=nr rfl
theorem A3x:Aa.zeros 87=[.konst .nilFunc]:=nr rfl
theorem A3y:Aa.zero1 87= .konst .nilFunc:=nr rfl
theorem A3z:Aa.size 87=1:=nr rfl
theorem AEg:Aa.ty 88= .func:=nr rfl
theorem AEh:Aa.ty 89= .func:=nr rfl
theorem AEi:Aa.ty 90= .func:=nr rfl
theorem AEj:Aa.ty 91= .func:=nr rfl
theorem AEk:Aa.ty 92= .func:=nr rfl
theorem AEl:Aa.ty 93= .func:=nr rfl
theorem AEm:Aa.ty 94= .func:=nr rfl
theorem AEn:Aa.ty 95= .func:=nr rfl
theorem A40:Aa.ty 96= .func:=nr rfl
theorem A41:Aa.known 96=true:=nr rfl
theorem A42:Aa.isStruct 96=false:=nr rfl
theorem A43:Aa.zeros 96=[.konst .nilFunc]:=nr rfl
theorem A44:Aa.zero1 96= .konst .nilFunc:=nr rfl
theorem A45:Aa.size 96=1:=nr rfl
theorem AEo:Aa.ty 98= .func:=nr rfl
theorem AEp:Aa.ty 99= .func:=nr rfl
theorem ABA:Aa.ty 101= .func:=nr rfl
theorem ABB:Aa.ty 102= .func:=nr rfl
theorem ABC:Aa.ty 103= .func:=nr rfl
theorem ABD:Aa.ty 104= .func:=nr rfl
theorem ABE:Aa.ty 105= .func:=nr rfl
theorem ABF:Aa.ty 106= .func:=nr rfl
theorem ABG:Aa.ty 107= .func:=nr rfl
theorem ABH:Aa.ty 108= .func:=nr rfl
theorem ABJ:Aa.ty 109= .func:=nr rfl
theorem nM:Aa.ty 110= .int .u64:=nr rfl
theorem nN:Aa.known 110=true:=nr rfl
theorem nO:Aa.isStruct 110=false:=nr rfl
theorem nP:Aa.zeros 110=[.int .u64 0]:=nr rfl
theorem nQ:Aa.zero1 110= .int .u64 0:=nr rfl
theorem nR:Aa.size 110=1:=nr rfl
theorem ABK:Aa.ty 111= .func:=nr rfl
theorem ABL:Aa.ty 112= .func:=nr rfl
theorem ABM:Aa.ty 113= .func:=nr rfl
theorem ABN:Aa.ty 114= .func:=nr rfl
theorem nS:Aa.ty 115= .slice 22:=nr rfl
theorem nT:Aa.known 115=true:=nr rfl
theorem nU:Aa.isStruct 115=false:=nr rfl
theorem nV:Aa.zeros 115=[.own 22 []]:=nr rfl
theorem nW:Aa.zero1 115= .own 22 []:=nr rfl
theorem nX:Aa.size 115=1:=nr rfl
theorem ABO:Aa.ty 117= .func:=nr rfl
theorem ABP:Aa.ty 118= .func:=nr rfl
theorem ABQ:Aa.ty 119= .func:=nr rfl
theorem ABR:Aa.ty 120= .func:=nr rfl
theorem nY:Aa.ty 121= .slice 159:=nr rfl
theorem nZ:Aa.known 121=true:=nr rfl
theorem ng:Aa.isStruct 121=false:=nr rfl
theorem ni:Aa.zeros 121=[.own 159 []]:=nr rfl
theorem nk:Aa.zero1 121= .own 159 []:=nr rfl
theorem nu:Aa.size 121=1:=nr rfl
theorem ABS:Aa.ty 122= .func:=nr rfl
theorem ny:Aa.ty 123= .slice 125:=nr rfl
theorem nz:Aa.known 123=true:=nr rfl
theorem o5:Aa.isStruct 123=false:=nr rfl
theorem o6:Aa.zeros 123=[.own 125 []]:=nr rfl
theorem o7:Aa.zero1 123= .own 125 []:=nr rfl
theorem o8:Aa.size 123=1:=nr rfl
theorem ABT:Aa.ty 124= .struct [3,3]:=nr rfl
theorem o9:Aa.ty 125= .struct [3,3]:=nr rfl
theorem oD:Aa.known 125=true:=nr rfl
theorem oG:Aa.isStruct 125=true:=nr rfl
theorem oH:Aa.zeros 125=[.int .i64 0,.int .i64 0]:=nr rfl
theorem oJ:Aa.nest 125=none:=nr rfl
theorem oK:Aa.size 125=2:=nr rfl
theorem ABU:Aa.ty 126= .func:=nr rfl
theorem ABV:Aa.ty 127= .func:=nr rfl
theorem ABW:Aa.ty 128= .func:=nr rfl
theorem ABX:Aa.ty 129= .func:=nr rfl
theorem ABY:Aa.ty 130= .func:=nr rfl
theorem oO:Aa.ty 131= .func:=nr rfl
theorem oP:Aa.known 131=true:=nr rfl
theorem oQ:Aa.isStruct 131=false:=nr rfl
theorem oU:Aa.zeros 131=[.konst .nilFunc]:=nr rfl
theorem oV:Aa.zero1 131= .konst .nilFunc:=nr rfl
theorem oW:Aa.size 131=1:=nr rfl
theorem oZ:Aa.ty 132= .func:=nr rfl
theorem og:Aa.known 132=true:=nr rfl
theorem ol:Aa.isStruct 132=false:=nr rfl
theorem oo:Aa.zeros 132=[.konst .nilFunc]:=nr rfl
theorem oq:Aa.zero1 132= .konst .nilFunc:=nr rfl
theorem ou:Aa.size 132=1:=nr rfl
theorem ABZ:Aa.ty 133= .func:=nr rfl
theorem ABa:Aa.ty 134= .func:=nr rfl
theorem ow:Aa.ty 135= .slice 137:=nr rfl
theorem oz:Aa.known 135=true:=nr rfl
theorem p9:Aa.isStruct 135=false:=nr rfl
theorem pE:Aa.zeros 135=[.own 137 []]:=nr rfl
theorem pF:Aa.zero1 135= .own 137 []:=nr rfl
theorem pG:Aa.size 135=1:=nr rfl
theorem ABb:Aa.ty 136= .struct [3,3,3,3]:=nr rfl
theorem pI:Aa.ty 137= .struct [3,3,3,3]:=nr rfl
theorem pJ:Aa.known 137=true:=nr rfl
theorem pK:Aa.isStruct 137=true:=nr rfl
theorem pM:Aa.zeros 137=[.int .i64 0,.int .i64 0,.int .i64 0,.int .i64 0]:=nr rfl
theorem pO:Aa.nest 137=none:=nr rfl
theorem pQ:Aa.size 137=4:=nr rfl
theorem ABc:Aa.ty 138= .func:=nr rfl
theorem pR:Aa.ty 139= .func:=nr rfl
theorem pU:Aa.known 139=true:=nr rfl
theorem pV:Aa.isStruct 139=false:=nr rfl
theorem pW:Aa.zeros 139=[.konst .nilFunc]:=nr rfl
theorem pX:Aa.zero1 139= .konst .nilFunc:=nr rfl
theorem pY:Aa.size 139=1:=nr rfl
theorem ABd:Aa.ty 140= .func:=nr rfl
theorem ABe:Aa.ty 141= .func:=nr rfl
theorem ABf:Aa.ty 142= .func:=nr rfl
theorem ABg:Aa.ty 143= .func:=nr rfl
theorem pg:Aa.ty 144= .map 3 3:=nr rfl
theorem ABh:Aa.ty 145= .func:=nr rfl
theorem ABi:Aa.ty 146= .func:=nr rfl
theorem ABj:Aa.ty 147= .func:=nr rfl
theorem pq:Aa.ty 148= .func:=nr rfl
theorem pu:Aa.known 148=true:=nr rfl
theorem pz:Aa.isStruct 148=false:=nr rfl
theorem qA:Aa.zeros 148=[.konst .nilFunc]:=nr rfl
theorem qB:Aa.zero1 148= .konst .nilFunc:=nr rfl
theorem qC:Aa.size 148=1:=nr rfl
theorem ABk:Aa.ty 149= .func:=nr rfl
theorem ABl:Aa.ty 150= .func:=nr rfl
theorem qD:Aa.ty 151= .int .u32:=nr rfl
theorem qE:Aa.known 151=true:=nr rfl
theorem qF:Aa.isStruct 151=false:=nr rfl
theorem qG:Aa.zeros 151=[.int .u32 0]:=nr rfl
theorem qH:Aa.zero1 151= .int .u32 0:=nr rfl
theorem qI:Aa.size 151=1:=nr rfl
theorem ABm:Aa.ty 153= .func:=nr rfl
theorem qJ:Aa.ty 154= .int .u64:=nr rfl
theorem qK:Aa.known 154=true:=nr rfl
theorem qL:Aa.isStruct 154=false:=nr rfl
theorem qM:Aa.zeros 154=[.int .u64 0]:=nr rfl
theorem qN:Aa.zero1 154= .int .u64 0:=nr rfl
theorem qO:Aa.size 154=1:=nr rfl
theorem ABn:Aa.ty 156= .func:=nr rfl
theorem ABo:Aa.ty 157= .func:=nr rfl
theorem ABp:Aa.ty 158= .func:=nr rfl
theorem qP:Aa.ty 159= .struct [3,3]:=nr rfl
theorem qQ:Aa.known 159=true:=nr rfl
theorem qR:Aa.isStruct 159=true:=nr rfl
theorem qU:Aa.zeros 159=[.int .i64 0,.int .i64 0]:=nr rfl
theorem qV:Aa.nest 159=none:=nr rfl
theorem qW:Aa.size 159=2:=nr rfl
theorem ABq:Aa.ty 160= .func:=nr rfl
theorem ABr:Aa.ty 161= .func:=nr rfl
theorem qX:Aa.ty 162= .map 164 3:=nr rfl
theorem ABs:Aa.ty 165= .func:=nr rfl
theorem ABt:Aa.ty 166= .func:=nr rfl
theorem qY:Aa.ty 167= .func:=nr rfl
theorem qZ:Aa.known 167=true:=nr rfl
theorem qa:Aa.isStruct 167=false:=nr rfl
theorem qb:Aa.zeros 167=[.konst .nilFunc]:=nr rfl
theorem qc:Aa.zero1 167= .konst .nilFunc:=nr rfl
theorem qd:Aa.size 167=1:=nr rfl
theorem ABu:Aa.ty 168= .func:=nr rfl
theorem ABv:Aa.ty 169= .func:=nr rfl
theorem ABw:Aa.ty 170= .func:=nr rfl
theorem ABx:Aa.ty 171= .func:=nr rfl
theorem ABy:Aa.ty 172= .func:=nr rfl
theorem ABz:Aa.ty 173= .func:=nr rfl
theorem AC0:Aa.ty 174= .func:=nr rfl
theorem AC1:Aa.ty 175= .func:=nr rfl
theorem AC2:Aa.ty 176= .func:=nr rfl
theorem AC3:Aa.ty 177= .func:=nr rfl
theorem AC4:Aa.ty 178= .func:=nr rfl
theorem AC5:Aa.ty 179= .func:=nr rfl
theorem qf:Aa.ty 180= .int .i64:=nr rfl
theorem qg:Aa.known 180=true:=nr rfl
theorem qh:Aa.isStruct 180=false:=nr rfl
theorem qi:Aa.zeros 180=[.int .i64 0]:=nr rfl
theorem qj:Aa.zero1 180= .int .i64 0:=nr rfl
theorem ql:Aa.size 180=1:=nr rfl
theorem AC6:Aa.ty 182= .func:=nr rfl
theorem AC7:Aa.ty 183= .func:=nr rfl
theorem AC8:Aa.ty 184= .func:=nr rfl
theorem AC9:Aa.ty 185= .func:=nr rfl
theorem ACA:Aa.ty 186= .func:=nr rfl
theorem qm:Aa.ty 187= .int .u64:=nr rfl
theorem qo:Aa.known 187=true:=nr rfl
theorem qp:Aa.isStruct 187=false:=nr rfl
theorem qw:Aa.zeros 187=[.int .u64 0]:=nr rfl
theorem qx:Aa.zero1 187= .int .u64 0:=nr rfl
theorem qy:Aa.size 187=1:=nr rfl
theorem ACB:Aa.ty 188= .func:=nr rfl
theorem ACC:Aa.ty 189= .func:=nr rfl
theorem ACD:Aa.ty 190= .func:=nr rfl
theorem qz:Aa.ty 191= .ptr:=nr rfl
theorem rA:Aa.known 191=true:=nr rfl
theorem rC:Aa.isStruct 191=false:=nr rfl
theorem rD:Aa.zeros 191=[.konst (.pointer none)]:=nr rfl
theorem rE:Aa.zero1 191= .konst (.pointer none):=nr rfl
theorem rF:Aa.size 191=1:=nr rfl
theorem ACE:Aa.ty 192= .func:=nr rfl
theorem ACF:Aa.ty 193= .ptr:=nr rfl
theorem ACG:Aa.ty 195= .func:=nr rfl
theorem ACH:Aa.ty 196= .func:=nr rfl
theorem ACI:Aa.ty 197= .struct [17,17,17,9]:=nr rfl
theorem ACJ:Aa.ty 198= .struct [17,17,17,9]:=nr rfl
theorem ACK:Aa.ty 202= .func:=nr rfl
theorem ACM:Aa.ty 203= .int .u8:=nr rfl
theorem ACN:Aa.ty 204= .int .u8:=nr rfl
theorem ACO:Aa.ty 205= .func:=nr rfl
theorem ACP:Aa.ty 206= .ptr:=nr rfl
theorem ACQ:Aa.ty 207= .int .i32:=nr rfl
theorem ACR:Aa.ty 208= .int .i32:=nr rfl
theorem ACS:Aa.ty 209= .struct [12,12,151,203,5,5,204,205,206,207,208]:=nr rfl
theorem ACT:Aa.ty 210= .struct [12,12,151,203,5,5,204,205,206,207,208]:=nr rfl
theorem ACU:Aa.ty 211= .func:=nr rfl
theorem le3:lends 3=false:=nr rfl
theorem le4:lends 4=false:=nr rfl
theorem le5:lends 5=false:=nr rfl
theorem le6:lends 6=false:=nr rfl
theorem le7:lends 7=false:=nr rfl
theorem le8:lends 8=false:=nr rfl
theorem le9:lends 9=false:=nr rfl
theorem A46:lends 10=false:=nr rfl
theorem A47:lends 11=false:=nr rfl
theorem A48:lends 12=false:=nr rfl
theorem A49:lends 13=false:=nr rfl
theorem A4A:lends 14=false:=nr rfl
theorem A4B:lends 15=false:=nr rfl
theorem A4C:lends 16=true:=nr rfl
theorem A4D:lends 17=true:=nr rfl
theorem A4E:lends 18=false:=nr rfl
theorem A4F:lends 19=false:=nr rfl
theorem A4G:lends 20=false:=nr rfl
theorem A4H:lends 21=false:=nr rfl
theorem A4I:lends 22=false:=nr rfl
theorem A4J:lends 23=false:=nr rfl
theorem A4K:lends 24=false:=nr rfl
theorem A4L:lends 25=false:=nr rfl
theorem A4M:lends 26=false:=nr rfl
theorem A4N:lends 27=false:=nr rfl
theorem A4O:lends 28=false:=nr rfl
theorem A4P:lends 29=false:=nr rfl
theorem A4Q:lends 30=true:=nr rfl
theorem A4R:lends 31=false:=nr rfl
theorem A4S:lends 32=false:=nr rfl
theorem A4T:lends 33=false:=nr rfl
theorem A4U:lends 34=false:=nr rfl
theorem A4V:lends 35=false:=nr rfl
theorem A4W:lends 36=false:=nr rfl
theorem A4X:lends 37=false:=nr rfl
theorem A4Y:lends 38=false:=nr rfl
theorem A4Z:lends 39=false:=nr rfl
theorem A4a:lends 40=false:=nr rfl
theorem A4b:lends 41=false:=nr rfl
theorem A4c:lends 42=false:=nr rfl
theorem A4d:lends 43=false:=nr rfl
theorem A4e:lends 44=false:=nr rfl
theorem A4f:lends 45=false:=nr rfl
theorem A4g:lends 46=false:=nr rfl
theorem A4h:lends 47=true:=nr rfl
theorem A4i:lends 48=false:=nr rfl
theorem A4j:lends 49=true:=nr rfl
theorem A4k:lends 50=false:=nr rfl
theorem A4l:lends 51=false:=nr rfl
theorem A4m:lends 52=false:=nr rfl
theorem A4n:lends 53=false:=nr rfl
theorem A4o:lends 54=false:=nr rfl
theorem A4p:lends 55=false:=nr rfl
theorem A4q:lends 56=false:=nr rfl
theorem A4r:lends 57=false:=nr rfl
theorem A4s:lends 58=false:=nr rfl
theorem A4t:lends 59=false:=nr rfl
theorem A4u:lends 60=false:=nr rfl
theorem A4v:lends 61=false:=nr rfl
theorem A4w:lends 62=false:=nr rfl
theorem A4x:lends 63=false:=nr rfl
theorem A4y:lends 64=false:=nr rfl
theorem A4z:lends 65=false:=nr rfl
theorem A50:lends 66=false:=nr rfl
theorem A51:lends 67=false:=nr rfl
theorem A52:lends 68=false:=nr rfl
theorem A53:lends 69=false:=nr rfl
theorem A54:lends 70=false:=nr rfl
theorem A55:lends 71=false:=nr rfl
theorem A56:lends 72=false:=nr rfl
theorem A57:lends 73=false:=nr rfl
theorem A58:lends 74=false:=nr rfl
theorem A59:lends 75=false:=nr rfl
theorem A5A:lends 76=false:=nr rfl
theorem A5B:lends 77=false:=nr rfl
theorem A5C:lends 78=false:=nr rfl
theorem A5D:lends 79=true:=nr rfl
theorem A5E:lends 80=false:=nr rfl
theorem A5F:lends 81=false:=nr rfl
theorem A5G:lends 82=false:=nr rfl
theorem A5H:lends 83=false:=nr rfl
theorem A5I:lends 84=false:=nr rfl
theorem A5J:lends 85=false:=nr rfl
theorem A5K:lends 86=false:=nr rfl
theorem A5L:lends 87=false:=nr rfl
theorem A5M:lends 88=true:=nr rfl
theorem A5N:lends 89=false:=nr rfl
theorem A5O:lends 90=false:=nr rfl
theorem A5P:lends 91=false:=nr rfl
theorem A5Q:lends 92=false:=nr rfl
theorem A5R:lends 93=false:=nr rfl
theorem A5S:lends 94=false:=nr rfl
theorem A5T:lends 95=false:=nr rfl
theorem A5U:lends 96=false:=nr rfl
theorem A5V:lends 97=false:=nr rfl
theorem A5W:lends 98=false:=nr rfl
theorem A5X:lends 99=false:=nr rfl
theorem rG:lends 100=false:=nr rfl
theorem rH:lends 101=false:=nr rfl
theorem rJ:lends 102=false:=nr rfl
theorem rM:lends 103=false:=nr rfl
theorem rO:lends 104=false:=nr rfl
theorem rP:lends 105=false:=nr rfl
theorem rQ:lends 106=false:=nr rfl
theorem rR:lends 107=false:=nr rfl
theorem rT:lends 108=false:=nr rfl
theorem rU:lends 109=false:=nr rfl
theorem rV:lends 110=false:=nr rfl
theorem rW:lends 111=false:=nr rfl
theorem rX:lends 112=false:=nr rfl
theorem rY:lends 113=false:=nr rfl
theorem rZ:lends 114=false:=nr rfl
theorem rf:lends 115=false:=nr rfl
theorem rq:lends 116=false:=nr rfl
theorem ru:lends 117=false:=nr rfl
theorem ry:lends 118=false:=nr rfl
theorem rz:lends 119=false:=nr rfl
theorem sD:lends 120=true:=nr rfl
theorem sG:lends 121=false:=nr rfl
theorem sI:lends 122=false:=nr rfl
theorem sJ:lends 123=false:=nr rfl
theorem sK:lends 124=false:=nr rfl
theorem sM:lends 125=false:=nr rfl
theorem sN:lends 126=false:=nr rfl
theorem sO:lends 127=false:=nr rfl
theorem sP:lends 128=true:=nr rfl
theorem sQ:lends 129=false:=nr rfl
theorem sU:lends 130=false:=nr rfl
theorem sV:lends 131=false:=nr rfl
theorem sW:lends 132=false:=nr rfl
theorem sZ:lends 133=false:=nr rfl
theorem su:lends 134=false:=nr rfl
theorem sw:lends 135=false:=nr rfl
theorem tC:lends 136=false:=nr rfl
theorem tF:lends 137=false:=nr rfl
theorem tH:lends 138=false:=nr rfl
theorem tJ:lends 139=false:=nr rfl
theorem tL:lends 140=false:=nr rfl
theorem tN:lends 141=false:=nr rfl
theorem tO:lends 142=false:=nr rfl
theorem tQ:lends 143=false:=nr rfl
theorem tT:lends 144=false:=nr rfl
theorem iU:lends 145=false:=nr rfl
theorem tV:lends 146=false:=nr rfl
theorem tX:lends 147=false:=nr rfl
theorem tY:lends 148=false:=nr rfl
theorem tZ:lends 149=false:=nr rfl
theorem tq:lends 150=false:=nr rfl
theorem tu:lends 151=false:=nr rfl
theorem u6:lends 152=true:=nr rfl
theorem u7:lends 153=false:=nr rfl
theorem uA:lends 154=false:=nr rfl
theorem uB:lends 155=false:=nr rfl
theorem uC:lends 156=false:=nr rfl
theorem uD:lends 157=false:=nr rfl
theorem uE:lends 158=false:=nr rfl
theorem uF:lends 159=false:=nr rfl
theorem uG:lends 160=false:=nr rfl
theorem uH:lends 161=false:=nr rfl
theorem uI:lends 162=false:=nr rfl
theorem uJ:lends 163=false:=nr rfl
theorem uK:lends 164=false:=nr rfl
theorem uL:lends 165=false:=nr rfl
theorem uM:lends 166=false:=nr rfl
theorem uN:lends 167=false:=nr rfl
theorem uO:lends 168=false:=nr rfl
theorem uP:lends 169=false:=nr rfl
theorem iV:lends 170=false:=nr rfl
theorem uQ:lends 171=false:=nr rfl
theorem uR:lends 172=false:=nr rfl
theorem uS:lends 173=false:=nr rfl
theorem uT:lends 174=false:=nr rfl
theorem uU:lends 175=false:=nr rfl
theorem uV:lends 176=false:=nr rfl
theorem uW:lends 177=false:=nr rfl
theorem uX:lends 178=false:=nr rfl
theorem uY:lends 179=false:=nr rfl
theorem uZ:lends 180=false:=nr rfl
theorem uf:lends 181=false:=nr rfl
theorem ug:lends 182=false:=nr rfl
theorem uh:lends 183=false:=nr rfl
theorem uj:lends 184=false:=nr rfl
theorem uk:lends 185=false:=nr rfl
theorem ul:lends 186=false:=nr rfl
theorem um:lends 187=false:=nr rfl
theorem uo:lends 188=false:=nr rfl
theorem uq:lends 189=false:=nr rfl
theorem ut:lends 190=false:=nr rfl
theorem uu:lends 191=false:=nr rfl
theorem uw:lends 192=false:=nr rfl
theorem uy:lends 193=false:=nr rfl
theorem uz:lends 194=false:=nr rfl
theorem vB:lends 195=false:=nr rfl
theorem vC:lends 196=false:=nr rfl
theorem vD:lends 197=false:=nr rfl
theorem vE:lends 198=false:=nr rfl
theorem vF:lends 199=false:=nr rfl
theorem vG:lends 200=false:=nr rfl
theorem vH:lends 201=false:=nr rfl
theorem vI:lends 202=false:=nr rfl
theorem vJ:lends 203=false:=nr rfl
theorem vK:lends 204=false:=nr rfl
theorem vL:lends 205=false:=nr rfl
theorem vM:lends 206=false:=nr rfl
theorem vN:lends 207=false:=nr rfl
theorem vO:lends 208=false:=nr rfl
theorem vP:lends 209=false:=nr rfl
theorem vQ:lends 210=false:=nr rfl
theorem vR:lends 211=false:=nr rfl
theorem vS:lends 212=false:=nr rfl
theorem vT:lends 213=true:=nr rfl
theorem vU:lends 214=false:=nr rfl
theorem vV:lends 215=false:=nr rfl
set_option maxRecDepth 100000 in
theorem lW:CB Try.prog Aa:=wz (by kernel_rfl)
theorem mixed:Try.prog.follows .mixedOrders=true:=by kernel_rfl
noncomputable def Y0:Dv.Sys:={P:=Try.prog,T:=Aa,lends:=lends,base:=fun _ _ _=>none}
theorem A9A:Dv.Sys.Ok Y0:=⟨lW,mixed,fun _ _ _ _ _ h=>by cases h⟩
theorem A9B(T:Tys)(s:St)(t:TypeId):ev T s t (.const .nilFunc)=some (.konst .nilFunc):=nr rfl
theorem A9C(T:Tys)(s:St)(t:TypeId):ev T s t (.const .nilIface)=some (.konst .nilIface):=nr rfl
theorem A9D(T:Tys)(s:St)(t:TypeId):ev T s t (.const (.pointer none))=some (.konst (.pointer none)):=nr rfl
theorem y0T:Y0.T=Aa:=nr rfl
theorem y0L:Y0.lends=lends:=nr rfl
set_option maxRecDepth 10000 in
set_option linter.defProp false in
def A5Y:=
 A7 @y0T (
 A7 @y0L (
 A7 @zw (
 A7 @ty4 (
 A7 @ty5 (
 A7 @lT (
 A7 @lU (
 A7 @lV (
 A7 @A2q (
 A7 @A2w (
 A7 @A32 (
 A7 @A38 (
 A7 @A3E (
 A7 @A3K (
 A7 @A3Q (
 A7 @A3W (
 A7 @A3c (
 A7 @A3i (
 A7 @A3o (
 A7 @A3u (
 A7 @A40 (
 A7 @nM (
 A7 @nS (
 A7 @nY (
 A7 @ny (
 A7 @o9 (
 A7 @oO (
 A7 @oZ (
 A7 @ow (
 A7 @pI (
 A7 @pR (
 A7 @pg (
 A7 @pq (
 A7 @qD (
 A7 @qJ (
 A7 @qP (
 A7 @qX (
 A7 @qY (
 A7 @qf (
 A7 @qm (
 A7 @qz (
 A7 @kn3 (
 A7 @st3 (
 A7 @sz3 (
 A7 @zr3 (
 A7 @kn4 (
 A7 @st4 (
 A7 @sz4 (
 A7 @zr4 (
 A7 @kn5 (
 A7 @st5 (
 A7 @sz5 (
 A7 @zr5 (
 A7 @A2d (
 A7 @A2e (
 A7 @A2h (
 A7 @A2f (
 A7 @A2i (
 A7 @A2j (
 A7 @A2m (
 A7 @A2k (
 A7 @yI (
 A7 @A2n (
 A7 @yJ (
 A7 @A2o (
 A7 @A2r (
 A7 @A2s (
 A7 @A2v (
 A7 @A2t (
 A7 @A2x (
 A7 @A2y (
 A7 @A31 (
 A7 @A2z (
 A7 @A33 (
 A7 @A34 (
 A7 @A37 (
 A7 @A35 (
 A7 @A39 (
 A7 @A3A (
 A7 @A3D (
 A7 @A3B (
 A7 @A3F (
 A7 @A3G (
 A7 @A3J (
 A7 @A3H (
 A7 @A3L (
 A7 @A3M (
 A7 @A3P (
 A7 @A3N (
 A7 @A3R (
 A7 @A3S (
 A7 @A3V (
 A7 @A3T (
 A7 @A3X (
 A7 @A3Y (
 A7 @A3b (
 A7 @A3Z (
 A7 @A3d (
 A7 @A3e (
 A7 @A3h (
 A7 @A3f (
 A7 @A3j (
 A7 @A3k (
 A7 @A3n (
 A7 @A3l (
 A7 @A3p (
 A7 @A3q (
 A7 @A3t (
 A7 @A3r (
 A7 @A3v (
 A7 @A3w (
 A7 @A3z (
 A7 @A3x (
 A7 @A41 (
 A7 @A42 (
 A7 @A45 (
 A7 @A43 (
 A7 @nN (
 A7 @nO (
 A7 @nR (
 A7 @nP (
 A7 @nT (
 A7 @nU (
 A7 @nX (
 A7 @nV (
 A7 @nZ (
 A7 @ng (
 A7 @nu (
 A7 @ni (
 A7 @nz (
 A7 @o5 (
 A7 @o8 (
 A7 @o6 (
 A7 @oD (
 A7 @oG (
 A7 @oK (
 A7 @oH (
 A7 @oP (
 A7 @oQ (
 A7 @oW (
 A7 @oU (
 A7 @og (
 A7 @ol (
 A7 @ou (
 A7 @oo (
 A7 @oz (
 A7 @p9 (
 A7 @pG (
 A7 @pE (
 A7 @pJ (
 A7 @pK (
 A7 @pQ (
 A7 @pM (
 A7 @pU (
 A7 @pV (
 A7 @pY (
 A7 @pW (
 A7 @pu (
 A7 @pz (
 A7 @qC (
 A7 @qA (
 A7 @qE (
 A7 @qF (
 A7 @qI (
 A7 @qG (
 A7 @qK (
 A7 @qL (
 A7 @qO (
 A7 @qM (
 A7 @qQ (
 A7 @qR (
 A7 @qW (
 A7 @qU (
 A7 @qZ (
 A7 @qa (
 A7 @qd (
 A7 @qb (
 A7 @qg (
 A7 @qh (
 A7 @ql (
 A7 @qi (
 A7 @qo (
 A7 @qp (
 A7 @qy (
 A7 @qw (
 A7 @rA (
 A7 @rC (
 A7 @rF (
 A7 @rD (
 A7 @A2l (
 A7 @A2u (
 A7 @A36 (
 A7 @A3I (
 A7 @A3O (
 A7 @A3U (
 A7 @A3g (
 A7 @A3s (
 A7 @oJ (
 A7 @pO (
 A7 @qV (
 A7 @iL (
 A7 @iM (
 A7 @iO (
 A7 @iP (
 A7 @iQ (
 A7 @iR (
 A7 @iT (
 A7 @zo3 (
 A7 @zo4 (
 A7 @zo5 (
 A7 @A2g (
 A7 @A2p (
 A7 @A30 (
 A7 @A3C (
 A7 @A3a (
 A7 @A3m (
 A7 @A3y (
 A7 @A44 (
 A7 @nQ (
 A7 @nW (
 A7 @nk (
 A7 @o7 (
 A7 @oV (
 A7 @oq (
 A7 @pF (
 A7 @pX (
 A7 @qB (
 A7 @qH (
 A7 @qN (
 A7 @qc (
 A7 @qj (
 A7 @qx (
 A7 @rE (
 A7 @le3 (
 A7 @le4 (
 A7 @le5 (
 A7 @le6 (
 A7 @le7 (
 A7 @le8 (
 A7 @le9 (
 A7 @A46 (
 A7 @A47 (
 A7 @A48 (
 A7 @A49 (
 A7 @A4A (
 A7 @A4B (
 A7 @A4C (
 A7 @A4D (
 A7 @A4E (
 A7 @A4F (
 A7 @A4G (
 A7 @A4H (
 A7 @A4I (
 A7 @A4J (
 A7 @A4K (
 A7 @A4L (
 A7 @A4M (
 A7 @A4N (
 A7 @A4O (
 A7 @A4P (
 A7 @A4Q (
 A7 @A4R (
 A7 @A4S (
 A7 @A4T (
 A7 @A4U (
 A7 @A4V (
 A7 @A4W (
 A7 @A4X (
 A7 @A4Y (
 A7 @A4Z (
 A7 @A4a (
 A7 @A4b (
 A7 @A4c (
 A7 @A4d (
 A7 @A4e (
 A7 @A4f (
 A7 @A4g (
 A7 @A4h (
 A7 @A4i (
 A7 @A4j (
 A7 @A4k (
 A7 @A4l (
 A7 @A4m (
 A7 @A4n (
 A7 @A4o (
 A7 @A4p (
 A7 @A4q (
 A7 @A4r (
 A7 @A4s (
 A7 @A4t (
 A7 @A4u (
 A7 @A4v (
 A7 @A4w (
 A7 @A4x (
 A7 @A4y (
 A7 @A4z (
 A7 @A50 (
 A7 @A51 (
 A7 @A52 (
 A7 @A53 (
 A7 @A54 (
 A7 @A55 (
 A7 @A56 (
 A7 @A57 (
 A7 @A58 (
 A7 @A59 (
 A7 @A5A (
 A7 @A5B (
 A7 @A5C (
 A7 @A5D (
 A7 @A5E (
 A7 @A5F (
 A7 @A5G (
 A7 @A5H (
 A7 @A5I (
 A7 @A5J (
 A7 @A5K (
 A7 @A5L (
 A7 @A5M (
 A7 @A5N (
 A7 @A5O (
 A7 @A5P (
 A7 @A5Q (
 A7 @A5R (
 A7 @A5S (
 A7 @A5T (
 A7 @A5U (
 A7 @A5V (
 A7 @A5W (
 A7 @A5X (
 A7 @rG (
 A7 @rH (
 A7 @rJ (
 A7 @rM (
 A7 @rO (
 A7 @rP (
 A7 @rQ (
 A7 @rR (
 A7 @rT (
 A7 @rU (
 A7 @rV (
 A7 @rW (
 A7 @rX (
 A7 @rY (
 A7 @rZ (
 A7 @rf (
 A7 @rq (
 A7 @ru (
 A7 @ry (
 A7 @rz (
 A7 @sD (
 A7 @sG (
 A7 @sI (
 A7 @sJ (
 A7 @sK (
 A7 @sM (
 A7 @sN (
 A7 @sO (
 A7 @sP (
 A7 @sQ (
 A7 @sU (
 A7 @sV (
 A7 @sW (
 A7 @sZ (
 A7 @su (
 A7 @sw (
 A7 @tC (
 A7 @tF (
 A7 @tH (
 A7 @tJ (
 A7 @tL (
 A7 @tN (
 A7 @tO (
 A7 @tQ (
 A7 @tT (
 A7 @iU (
 A7 @tV (
 A7 @tX (
 A7 @tY (
 A7 @tZ (
 A7 @tq (
 A7 @tu (
 A7 @u6 (
 A7 @u7 (
 A7 @uA (
 A7 @uB (
 A7 @uC (
 A7 @uD (
 A7 @uE (
 A7 @uF (
 A7 @uG (
 A7 @uH (
 A7 @uI (
 A7 @uJ (
 A7 @uK (
 A7 @uL (
 A7 @uM (
 A7 @uN (
 A7 @uO (
 A7 @uP (
 A7 @iV (
 A7 @uQ (
 A7 @uR (
 A7 @uS (
 A7 @uT (
 A7 @uU (
 A7 @uV (
 A7 @uW (
 A7 @uX (
 A7 @uY (
 A7 @uZ (
 A7 @uf (
 A7 @ug (
 A7 @uh (
 A7 @uj (
 A7 @uk (
 A7 @ul (
 A7 @um (
 A7 @uo (
 A7 @uq (
 A7 @ut (
 A7 @uu (
 A7 @uw (
 A7 @uy (
 A7 @uz (
 A7 @vB (
 A7 @vC (
 A7 @vD (
 A7 @vE (
 A7 @vF (
 A7 @vG (
 A7 @vH (
 A7 @vI (
 A7 @vJ (
 A7 @vK (
 A7 @vL (
 A7 @vM (
 A7 @vN (
 A7 @vO (
 A7 @vP (
 A7 @vQ (
 A7 @vR (
 A7 @vS (
 A7 @vT (
 A7 @vU (@vV)))))))))))))))))))))))))))))))))))))))))))))))))))))))))))))))))))))))))))))))))))))))))))))))))))))))))))))))))))))))))))))))))))))))))))))))))))))))))))))))))))))))))))))))))))))))))))))))))))))))))))))))))))))))))))))))))))))))))))))))))))))))))))))))))))))))))))))))))))))))))))))))))))))))))))))))))))))))))))))))))))))))))))))))))))))))))))))))))))))))))))))))))))))))))))))))))))))))))))))))))))))))))))))))))))))))))))))))))))))))))))))
def iW:SC:= .seq (.ops [oX 2 (.assign (.const (.slice none 0 0))) 26]) (.seq (.seq (.ops [oM 3 0 26,oB 4 .eql 26 (tK 3) (.const (.slice none 0 0)) 26 4]) (.cond (tK 4) (.seq (.ops [oX 2 (.assign (.const (.slice none 0 0))) 26]) .ret) .skip)) (.seq (.ops [oX 5 (.buildSlice 26 0 #[]) 26,oM 6 0 26,oX 7 (.call ⟨(.builtin .append), #[(tK 5),(tK 6)], #[26,26]⟩) 26,oA 2 7 26]) .ret))
theorem aP:Try.f121.body.map (Ct lends)=some iW:=by kernel_rfl
theorem vW:DL Try.f121 1=true:=by kernel_rfl
theorem Zj(A:Option Addr)(c:Nat):Y0.call 121 [.konst (.slice A 0 c)] []=some (.own 3 [],[]):=by
 refine Ag (Y:=Y0) rfl Try.func121 vW aP ?_;show D6 Y0.env iW (I6 Aa 0 [ResultVar.tmp 2] _) _
 unfold iW
 cases A<;>simp only [↓AB,gy,A5Y,implies_true,Ee,Nu,Option.isSome_some,↓reduceIte,Nat.reduceEqDiff,Nat.reduceLT,Nat.reduceLeDiff,Nat.reduceAdd,Nat.reduceMul,Nat.reduceMod,Nat.reduceSub,List.contains_cons,List.contains_nil,Nat.reduceBEq,List.getD_cons_zero,List.getD_cons_succ,List.getD_nil,Jn,OU,List.size_toArray,List.toList_toArray,List.zip_cons_cons,List.zip_nil_left,O9,LA,Nt,Pf,List.map_nil,ak,List.replicate_zero,List.set_cons_zero,VC,List.set_set,Tq,List.any_cons,List.any_nil,List.all_nil,Np,PZ,List.getElem?_nil,List.range_zero,beq_self_eq_true,Int.reduceLE,Int.reduceLT,Int.reduceEq,Int.reduceSub,Int.reduceAdd,Int.reduceToNat,Int.reduceNeg,Option.isNone_none,Option.isNone_some]
theorem lX:Dv.Good Try.prog Aa 121 [.sl 3 []] [] (.own 3 []) []:=ZZ kn3 (fun A c=>Dv.Sys.call_good A9A (Zj A c))
def iX(f:FuncId)(a l:List D):Option (D×List D):=
 match f,a,l with
 |121,[.sl 3 []],[]=>some (.own 3 [],[])
 |_,_,_=>none
theorem lY: ∀f a l r outs,iX f a l=some (r,outs)→Dv.Good Try.prog Aa f a l r outs:=by
 intro f a l r outs h;unfold iX at h
 split at h
 ·simp only [Option.some.injEq,Prod.mk.injEq]at h;obtain⟨rfl,rfl⟩:=h;exact lX
 ·cases h
theorem iY: ∀zs:List Int,zs.length<4611686018427387904→Dv.Good Try.prog Aa 152 [.vw [100000] 0 0] [.own 3 (I9 zs)] (.tup []) [.own 3 (I9 (Iz zs))]:=fun zs h=>
 dI ⟨Try.f152,Try.func152,rfl,by decide⟩ sz3 (fun blk off cap zs w h1 h2 h3=>Try.slices_Sort_int blk off cap zs w h1 h2 h3) (fun p cap w=>Try.slices_Sort_int_none p cap w) zs h
theorem Zk: ∀zs:List Int,zs.length<1099511627776→Dv.Good Try.prog Aa 115 [.clo 155 [.cptr [.sl 3 (I9 zs)]]] [] (.own 3 (I9 (Iz zs))) []:=fun zs h=>
 YA ⟨Try.f115,Try.func115,rfl,by decide⟩ sz3
  (fun p ad cap w h1 h2=>callsIn_wide.1 (Go.Proofs.sv.sorted_in 5 (I7 _) p _ [] (by decide) (by decide) w h1 h2 (.inl ⟨ad,cap,rfl,rfl⟩)))
  (fun p b off cap zs w h0 h1 h2 h3 h4=>callsIn_wide.1 (Go.Proofs.sv.sorted_in 5 (I7 _) p _ zs (by have:maxLen=9223372036854775807:=rfl;omega) (by omega) w h1 h2 (.inr ⟨b,off,cap,rfl,h3,h4⟩))) zs h
theorem YC: ∀n:Nat,n<1099511627776→Dv.Good Try.prog Aa 100 [.konst (.slice none 0 0),.int .i64 n] [] (.own 26 []) []:=fun n h=>
 Zi (ρ:=Try.laysGrow100_ren) lW Try.laysGrow100 ⟨Try.f100,Try.func100,rfl,by decide⟩ yI yJ n h
noncomputable def Y:Dv.Sys:={P:=Try.prog,T:=Aa,lends:=lends,base:=OH (NE 100 26) (OH (OH iX (NC 152 3)) (KG 115 155 3))}
theorem yOk:Dv.Sys.Ok Y:=⟨lW,mixed,ND (UA YC) (ND (ND lY (U8 iY)) (Qv Zk))⟩
theorem iZ:Aa.ty 900013= .other:=nr rfl
theorem yT:Y.T=Aa:=nr rfl
theorem yL:Y.lends=lends:=nr rfl
set_option maxRecDepth 10000 in
set_option linter.defProp false in
def A5Z:=
 A7 @iZ (
 A7 @yT (
 A7 @yL (
 A7 @A9B (
 A7 @A9C (
 A7 @A9D (
 A7 @zw (
 A7 @ty4 (
 A7 @ty5 (
 A7 @lT (
 A7 @lU (
 A7 @lV (
 A7 @A2q (
 A7 @A2w (
 A7 @A32 (
 A7 @A38 (
 A7 @A3E (
 A7 @A3K (
 A7 @A3Q (
 A7 @A3W (
 A7 @A3c (
 A7 @A3i (
 A7 @A3o (
 A7 @A3u (
 A7 @A40 (
 A7 @nM (
 A7 @nS (
 A7 @nY (
 A7 @ny (
 A7 @o9 (
 A7 @oO (
 A7 @oZ (
 A7 @ow (
 A7 @pI (
 A7 @pR (
 A7 @pg (
 A7 @pq (
 A7 @qD (
 A7 @qJ (
 A7 @qP (
 A7 @qX (
 A7 @qY (
 A7 @qf (
 A7 @qm (
 A7 @qz (
 A7 @kn3 (
 A7 @st3 (
 A7 @sz3 (
 A7 @zr3 (
 A7 @kn4 (
 A7 @st4 (
 A7 @sz4 (
 A7 @zr4 (
 A7 @kn5 (
 A7 @st5 (
 A7 @sz5 (
 A7 @zr5 (
 A7 @A2d (
 A7 @A2e (
 A7 @A2h (
 A7 @A2f (
 A7 @A2i (
 A7 @A2j (
 A7 @A2m (
 A7 @A2k (
 A7 @yI (
 A7 @A2n (
 A7 @yJ (
 A7 @A2o (
 A7 @A2r (
 A7 @A2s (
 A7 @A2v (
 A7 @A2t (
 A7 @A2x (
 A7 @A2y (
 A7 @A31 (
 A7 @A2z (
 A7 @A33 (
 A7 @A34 (
 A7 @A37 (
 A7 @A35 (
 A7 @A39 (
 A7 @A3A (
 A7 @A3D (
 A7 @A3B (
 A7 @A3F (
 A7 @A3G (
 A7 @A3J (
 A7 @A3H (
 A7 @A3L (
 A7 @A3M (
 A7 @A3P (
 A7 @A3N (
 A7 @A3R (
 A7 @A3S (
 A7 @A3V (
 A7 @A3T (
 A7 @A3X (
 A7 @A3Y (
 A7 @A3b (
 A7 @A3Z (
 A7 @A3d (
 A7 @A3e (
 A7 @A3h (
 A7 @A3f (
 A7 @A3j (
 A7 @A3k (
 A7 @A3n (
 A7 @A3l (
 A7 @A3p (
 A7 @A3q (
 A7 @A3t (
 A7 @A3r (
 A7 @A3v (
 A7 @A3w (
 A7 @A3z (
 A7 @A3x (
 A7 @A41 (
 A7 @A42 (
 A7 @A45 (
 A7 @A43 (
 A7 @nN (
 A7 @nO (
 A7 @nR (
 A7 @nP (
 A7 @nT (
 A7 @nU (
 A7 @nX (
 A7 @nV (
 A7 @nZ (
 A7 @ng (
 A7 @nu (
 A7 @ni (
 A7 @nz (
 A7 @o5 (
 A7 @o8 (
 A7 @o6 (
 A7 @oD (
 A7 @oG (
 A7 @oK (
 A7 @oH (
 A7 @oP (
 A7 @oQ (
 A7 @oW (
 A7 @oU (
 A7 @og (
 A7 @ol (
 A7 @ou (
 A7 @oo (
 A7 @oz (
 A7 @p9 (
 A7 @pG (
 A7 @pE (
 A7 @pJ (
 A7 @pK (
 A7 @pQ (
 A7 @pM (
 A7 @pU (
 A7 @pV (
 A7 @pY (
 A7 @pW (
 A7 @pu (
 A7 @pz (
 A7 @qC (
 A7 @qA (
 A7 @qE (
 A7 @qF (
 A7 @qI (
 A7 @qG (
 A7 @qK (
 A7 @qL (
 A7 @qO (
 A7 @qM (
 A7 @qQ (
 A7 @qR (
 A7 @qW (
 A7 @qU (
 A7 @qZ (
 A7 @qa (
 A7 @qd (
 A7 @qb (
 A7 @qg (
 A7 @qh (
 A7 @ql (
 A7 @qi (
 A7 @qo (
 A7 @qp (
 A7 @qy (
 A7 @qw (
 A7 @rA (
 A7 @rC (
 A7 @rF (
 A7 @rD (
 A7 @A2l (
 A7 @A2u (
 A7 @A36 (
 A7 @A3I (
 A7 @A3O (
 A7 @A3U (
 A7 @A3g (
 A7 @A3s (
 A7 @oJ (
 A7 @pO (
 A7 @qV (
 A7 @iL (
 A7 @iM (
 A7 @iO (
 A7 @iP (
 A7 @iQ (
 A7 @iR (
 A7 @iT (
 A7 @zo3 (
 A7 @zo4 (
 A7 @zo5 (
 A7 @A2g (
 A7 @A2p (
 A7 @A30 (
 A7 @A3C (
 A7 @A3a (
 A7 @A3m (
 A7 @A3y (
 A7 @A44 (
 A7 @nQ (
 A7 @nW (
 A7 @nk (
 A7 @o7 (
 A7 @oV (
 A7 @oq (
 A7 @pF (
 A7 @pX (
 A7 @qB (
 A7 @qH (
 A7 @qN (
 A7 @qc (
 A7 @qj (
 A7 @qx (
 A7 @rE (
 A7 @le3 (
 A7 @le4 (
 A7 @le5 (
 A7 @le6 (
 A7 @le7 (
 A7 @le8 (
 A7 @le9 (
 A7 @A46 (
 A7 @A47 (
 A7 @A48 (
 A7 @A49 (
 A7 @A4A (
 A7 @A4B (
 A7 @A4C (
 A7 @A4D (
 A7 @A4E (
 A7 @A4F (
 A7 @A4G (
 A7 @A4H (
 A7 @A4I (
 A7 @A4J (
 A7 @A4K (
 A7 @A4L (
 A7 @A4M (
 A7 @A4N (
 A7 @A4O (
 A7 @A4P (
 A7 @A4Q (
 A7 @A4R (
 A7 @A4S (
 A7 @A4T (
 A7 @A4U (
 A7 @A4V (
 A7 @A4W (
 A7 @A4X (
 A7 @A4Y (
 A7 @A4Z (
 A7 @A4a (
 A7 @A4b (
 A7 @A4c (
 A7 @A4d (
 A7 @A4e (
 A7 @A4f (
 A7 @A4g (
 A7 @A4h (
 A7 @A4i (
 A7 @A4j (
 A7 @A4k (
 A7 @A4l (
 A7 @A4m (
 A7 @A4n (
 A7 @A4o (
 A7 @A4p (
 A7 @A4q (
 A7 @A4r (
 A7 @A4s (
 A7 @A4t (
 A7 @A4u (
 A7 @A4v (
 A7 @A4w (
 A7 @A4x (
 A7 @A4y (
 A7 @A4z (
 A7 @A50 (
 A7 @A51 (
 A7 @A52 (
 A7 @A53 (
 A7 @A54 (
 A7 @A55 (
 A7 @A56 (
 A7 @A57 (
 A7 @A58 (
 A7 @A59 (
 A7 @A5A (
 A7 @A5B (
 A7 @A5C (
 A7 @A5D (
 A7 @A5E (
 A7 @A5F (
 A7 @A5G (
 A7 @A5H (
 A7 @A5I (
 A7 @A5J (
 A7 @A5K (
 A7 @A5L (
 A7 @A5M (
 A7 @A5N (
 A7 @A5O (
 A7 @A5P (
 A7 @A5Q (
 A7 @A5R (
 A7 @A5S (
 A7 @A5T (
 A7 @A5U (
 A7 @A5V (
 A7 @A5W (
 A7 @A5X (
 A7 @rG (
 A7 @rH (
 A7 @rJ (
 A7 @rM (
 A7 @rO (
 A7 @rP (
 A7 @rQ (
 A7 @rR (
 A7 @rT (
 A7 @rU (
 A7 @rV (
 A7 @rW (
 A7 @rX (
 A7 @rY (
 A7 @rZ (
 A7 @rf (
 A7 @rq (
 A7 @ru (
 A7 @ry (
 A7 @rz (
 A7 @sD (
 A7 @sG (
 A7 @sI (
 A7 @sJ (
 A7 @sK (
 A7 @sM (
 A7 @sN (
 A7 @sO (
 A7 @sP (
 A7 @sQ (
 A7 @sU (
 A7 @sV (
 A7 @sW (
 A7 @sZ (
 A7 @su (
 A7 @sw (
 A7 @tC (
 A7 @tF (
 A7 @tH (
 A7 @tJ (
 A7 @tL (
 A7 @tN (
 A7 @tO (
 A7 @tQ (
 A7 @tT (
 A7 @iU (
 A7 @tV (
 A7 @tX (
 A7 @tY (
 A7 @tZ (
 A7 @tq (
 A7 @tu (
 A7 @u6 (
 A7 @u7 (
 A7 @uA (
 A7 @uB (
 A7 @uC (
 A7 @uD (
 A7 @uE (
 A7 @uF (
 A7 @uG (
 A7 @uH (
 A7 @uI (
 A7 @uJ (
 A7 @uK (
 A7 @uL (
 A7 @uM (
 A7 @uN (
 A7 @uO (
 A7 @uP (
 A7 @iV (
 A7 @uQ (
 A7 @uR (
 A7 @uS (
 A7 @uT (
 A7 @uU (
 A7 @uV (
 A7 @uW (
 A7 @uX (
 A7 @uY (
 A7 @uZ (
 A7 @uf (
 A7 @ug (
 A7 @uh (
 A7 @uj (
 A7 @uk (
 A7 @ul (
 A7 @um (
 A7 @uo (
 A7 @uq (
 A7 @ut (
 A7 @uu (
 A7 @uw (
 A7 @uy (
 A7 @uz (
 A7 @vB (
 A7 @vC (
 A7 @vD (
 A7 @vE (
 A7 @vF (
 A7 @vG (
 A7 @vH (
 A7 @vI (
 A7 @vJ (
 A7 @vK (
 A7 @vL (
 A7 @vM (
 A7 @vN (
 A7 @vO (
 A7 @vP (
 A7 @vQ (
 A7 @vR (
 A7 @vS (
 A7 @vT (
 A7 @vU (@vV)))))))))))))))))))))))))))))))))))))))))))))))))))))))))))))))))))))))))))))))))))))))))))))))))))))))))))))))))))))))))))))))))))))))))))))))))))))))))))))))))))))))))))))))))))))))))))))))))))))))))))))))))))))))))))))))))))))))))))))))))))))))))))))))))))))))))))))))))))))))))))))))))))))))))))))))))))))))))))))))))))))))))))))))))))))))))))))))))))))))))))))))))))))))))))))))))))))))))))))))))))))))))))))))))))))))))))))))))))))))))))))))))
theorem A5a(n:Int)(h:0≤n∧n<1099511627776):Y.call 100 [.konst (.slice none 0 0),.int .i64 n] []=some (.own 26 [],[]):=Dv.Sys.call_base (Qi<|YB 100 26 n h)
theorem Zl(zs:List Int)(h:zs.length<1099511627776):Y.call 115 [.clo 155 [.cptr [.sl 3 (A9 (D.int .i64) zs)]]] []=some (.own 3 (A9 (D.int .i64) (Iz zs)),[]):=Dv.Sys.call_base ((U9 115 155 3 zs h))
theorem A5b(zs:List Int)(h:zs.length<4611686018427387904):Y.call 152 [.vw [100000] 0 0] [.own 3 (A9 (D.int .i64) zs)]=some (.tup [],[.own 3 (A9 (D.int .i64) (Iz zs))]):=Dv.Sys.call_base (Qi<|(Y9 152 3 zs h))
theorem zx(xs:List D)(h:xs.length<1099511627776)(hs:xs.all Dh=true)(ho:Al xs=false)(hf:(Dx (.own 3 xs)).isSome=true):Y.call 121 [.sl 3 xs] []=some (.own 3 xs,[]):=by
 cases xs with
 |nil=>exact Dv.Sys.call_base rfl
 |cons x xs=>
  refine Ag (Y:=Y) rfl Try.func121 vW aP ?_;show D6 Y.env iW (I6 Aa 0 [ResultVar.tmp 2] _) _
  unfold iW;have h0:0+(x::xs).length<1099511627776:=by omega
  simp only [Jn,JF]at h0;simp only [Tq,aK]at hs ho;simp only [↓AB,gy,A5Z,implies_true,Ee,Nu,Option.isSome_some,↓reduceIte,Nat.reduceEqDiff,Nat.reduceLT,Nat.reduceLeDiff,Nat.reduceAdd,Nat.reduceMul,Nat.reduceMod,Nat.reduceSub,List.contains_cons,List.contains_nil,Nat.reduceBEq,List.getD_cons_zero,List.getD_cons_succ,List.getD_nil,Jn,OU,List.size_toArray,List.toList_toArray,List.zip_cons_cons,List.zip_nil_left,O9,LA,Nt,Pf,List.map_nil,ak,List.replicate_zero,List.set_cons_zero,VC,List.set_set,Tq,List.any_cons,List.any_nil,List.all_nil,Np,PZ,List.getElem?_nil,List.range_zero,beq_self_eq_true,Int.reduceLE,Int.reduceLT,Int.reduceEq,Int.reduceSub,Int.reduceAdd,Int.reduceToNat,Int.reduceNeg,JF,h0,hs,ho];simp only [nL,aL]at hf;rw [if_pos hf]
set_option linter.defProp false in
def AC:=A7 gy (A7 A98 (A7 xc2 (A7 A2c A5Z)))
end Go.Proofs.Ytclkfhhdikfcpaa
