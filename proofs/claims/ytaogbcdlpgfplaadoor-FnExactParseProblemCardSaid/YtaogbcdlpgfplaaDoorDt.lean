/- The types of this seat as data, and the system of its calls. Conditions: none. -/
import Derived.Test.YtaogbcdlpgfplaaDoorRows
import Derived.Test.YtaogbcdlpgfplaaDoorL6
import Derived.Test.YtaogbcdlpgfplaaDoorSh
import Derived.KernelRfl
namespace Go.Proofs.YtaogbcdlpgfplaaDoor
open Go Dv
set_option linter.unusedSimpArgs false
set_option maxRecDepth 100000
def bT:List Ty:=[.other, .func, .int .i64, .int .i64, .bool, .int .u8, .int .u8, .struct [2,3,4,6], .struct [2,3,4,6], .string, .string, .string, .int .u64, .struct [9,12], .struct [9,12], .ptr, .ptr, .ptr, .struct [17], .struct [17], .iface, .int .i32, .slice 51, .func, .other, .func, .slice 49, .func, .func, .func, .other, .func, .func, .func, .slice 70, .struct [3,3,34,34], .struct [3,3,34,34], .func, .func, .struct [3,3,34,34], .func, .func, .func, .other, .func, .func, .func, .func, .struct [3,3], .struct [3,3], .func, .struct [3,3], .slice 9, .func, .func, .func, .func, .func, .func, .func, .func, .iface, .iface, .other, .func, .func, .func, .func, .func, .func, .slice 3, .other, .func, .other, .func, .func, .func, .func, .ptr, .slice 5, .struct [78,79], .struct [78,79], .func, .func, .func, .func, .func, .func, .func, .func, .func, .func, .func, .other, .func, .func, .ptr, .func, .func, .int .i64, .other, .func, .ptr, .func, .func, .func, .func, .func, .arr 24 5, .int .u64, .func, .func, .other, .func, .other, .func, .func, .other, .func, .func, .other, .func, .int .u64, .func, .other, .other, .func, .func, .func, .func, .func, .func, .func, .other, .int .u32, .arr 65 5, .func, .func, .ptr, .struct [9], .struct [9], .func, .func, .other, .struct [5,5], .struct [5,5], .other, .other, .func, .arr 32 5, .arr 64 5, .struct [17,17,17,9], .struct [17,17,17,9], .other, .other, .other, .int .u8, .int .u8, .func, .int .i32, .int .i32, .struct [12,12,134,156,5,5,157,158,96,159,160], .struct [12,12,134,156,5,5,157,158,96,159,160]]
def kV:List (TypeId×List (Nat×TypeId)):=[(108,[(0,5),(1,5),(2,5),(3,5),(4,5),(5,5),(6,5),(7,5),(8,5),(9,5),(10,5),(11,5),(12,5),(13,5),(14,5),(15,5),(16,5),(17,5),(18,5),(19,5),(20,5),(21,5),(22,5),(23,5)]),(135,[(0,5),(1,5),(2,5),(3,5),(4,5),(5,5),(6,5),(7,5),(8,5),(9,5),(10,5),(11,5),(12,5),(13,5),(14,5),(15,5),(16,5),(17,5),(18,5),(19,5),(20,5),(21,5),(22,5),(23,5),(24,5),(25,5),(26,5),(27,5),(28,5),(29,5),(30,5),(31,5),(32,5),(33,5),(34,5),(35,5),(36,5),(37,5),(38,5),(39,5),(40,5),(41,5),(42,5),(43,5),(44,5),(45,5),(46,5),(47,5),(48,5),(49,5),(50,5),(51,5),(52,5),(53,5),(54,5),(55,5),(56,5),(57,5),(58,5),(59,5),(60,5),(61,5),(62,5),(63,5),(64,5)]),(149,[(0,5),(1,5),(2,5),(3,5),(4,5),(5,5),(6,5),(7,5),(8,5),(9,5),(10,5),(11,5),(12,5),(13,5),(14,5),(15,5),(16,5),(17,5),(18,5),(19,5),(20,5),(21,5),(22,5),(23,5),(24,5),(25,5),(26,5),(27,5),(28,5),(29,5),(30,5),(31,5)]),(150,[(0,5),(1,5),(2,5),(3,5),(4,5),(5,5),(6,5),(7,5),(8,5),(9,5),(10,5),(11,5),(12,5),(13,5),(14,5),(15,5),(16,5),(17,5),(18,5),(19,5),(20,5),(21,5),(22,5),(23,5),(24,5),(25,5),(26,5),(27,5),(28,5),(29,5),(30,5),(31,5),(32,5),(33,5),(34,5),(35,5),(36,5),(37,5),(38,5),(39,5),(40,5),(41,5),(42,5),(43,5),(44,5),(45,5),(46,5),(47,5),(48,5),(49,5),(50,5),(51,5),(52,5),(53,5),(54,5),(55,5),(56,5),(57,5),(58,5),(59,5),(60,5),(61,5),(62,5),(63,5)])]
def Ak:Tys:={Yd bT kV with vars:=[(2,nC .u64 Lib.pow10Tab),(3,nD),(0,Zo),(1,Zo)]}
def lends(f:FuncId):Bool:=[14,23,49,73].contains f
theorem ty1:Ak.ty 1= .func:=nr rfl
theorem ty2:Ak.ty 2= .int .i64:=nr rfl
theorem ty3:Ak.ty 3= .int .i64:=nr rfl
theorem kn3:Ak.known 3=true:=nr rfl
theorem st3:Ak.isStruct 3=false:=nr rfl
theorem zr3:Ak.zeros 3=[.int .i64 0]:=nr rfl
theorem zo3:Ak.zero1 3= .int .i64 0:=nr rfl
theorem sz3:Ak.size 3=1:=nr rfl
theorem ty4:Ak.ty 4= .bool:=nr rfl
theorem kn4:Ak.known 4=true:=nr rfl
theorem st4:Ak.isStruct 4=false:=nr rfl
theorem zr4:Ak.zeros 4=[.bool false]:=nr rfl
theorem zo4:Ak.zero1 4= .bool false:=nr rfl
theorem sz4:Ak.size 4=1:=nr rfl
theorem ty5:Ak.ty 5= .int .u8:=nr rfl
theorem kn5:Ak.known 5=true:=nr rfl
theorem st5:Ak.isStruct 5=false:=nr rfl
theorem zr5:Ak.zeros 5=[.int .u8 0]:=nr rfl
theorem zo5:Ak.zero1 5= .int .u8 0:=nr rfl
theorem sz5:Ak.size 5=1:=nr rfl
theorem ty6:Ak.ty 6= .int .u8:=nr rfl
theorem ty7:Ak.ty 7= .struct [2,3,4,6]:=nr rfl
theorem ty8:Ak.ty 8= .struct [2,3,4,6]:=nr rfl
theorem ty9:Ak.ty 9= .string:=nr rfl
theorem kn9:Ak.known 9=true:=nr rfl
theorem st9:Ak.isStruct 9=false:=nr rfl
theorem zr9:Ak.zeros 9=[.str ByteArray.empty]:=nr rfl
theorem zo9:Ak.zero1 9= .str ByteArray.empty:=nr rfl
theorem sz9:Ak.size 9=1:=nr rfl
theorem AHE:Ak.ty 10= .string:=nr rfl
theorem AHF:Ak.ty 11= .string:=nr rfl
theorem AHG:Ak.ty 12= .int .u64:=nr rfl
theorem AHH:Ak.ty 13= .struct [9,12]:=nr rfl
theorem AHI:Ak.ty 14= .struct [9,12]:=nr rfl
theorem AHJ:Ak.ty 15= .ptr:=nr rfl
theorem AHK:Ak.ty 16= .ptr:=nr rfl
theorem AHL:Ak.ty 17= .ptr:=nr rfl
theorem AHM:Ak.ty 18= .struct [17]:=nr rfl
theorem AHN:Ak.ty 19= .struct [17]:=nr rfl
theorem A3G:Ak.ty 20= .iface:=nr rfl
theorem A3H:Ak.ty 21= .int .i32:=nr rfl
theorem A3I:Ak.known 21=true:=nr rfl
theorem vG:Ak.isStruct 21=false:=nr rfl
theorem A3J:Ak.zeros 21=[.int .i32 0]:=nr rfl
theorem A3K:Ak.zero1 21= .int .i32 0:=nr rfl
theorem A3L:Ak.size 21=1:=nr rfl
theorem A3M:Ak.ty 22= .slice 51:=nr rfl
theorem A3N:Ak.known 22=true:=nr rfl
theorem A3O:Ak.isStruct 22=false:=nr rfl
theorem A3P:Ak.zeros 22=[.own 51 []]:=nr rfl
theorem A3Q:Ak.zero1 22= .own 51 []:=nr rfl
theorem A3R:Ak.size 22=1:=nr rfl
theorem AHO:Ak.ty 23= .func:=nr rfl
theorem AHP:Ak.ty 25= .func:=nr rfl
theorem A3S:Ak.ty 26= .slice 49:=nr rfl
theorem A3T:Ak.known 26=true:=nr rfl
theorem A3U:Ak.isStruct 26=false:=nr rfl
theorem A3V:Ak.zeros 26=[.own 49 []]:=nr rfl
theorem A3W:Ak.zero1 26= .own 49 []:=nr rfl
theorem A3X:Ak.size 26=1:=nr rfl
theorem AHQ:Ak.ty 27= .func:=nr rfl
theorem AHR:Ak.ty 28= .func:=nr rfl
theorem AHS:Ak.ty 29= .func:=nr rfl
theorem AHT:Ak.ty 31= .func:=nr rfl
theorem AHU:Ak.ty 32= .func:=nr rfl
theorem AHV:Ak.ty 33= .func:=nr rfl
theorem A3Y:Ak.ty 34= .slice 70:=nr rfl
theorem A3Z:Ak.known 34=true:=nr rfl
theorem A3a:Ak.isStruct 34=false:=nr rfl
theorem A3b:Ak.zeros 34=[.own 70 []]:=nr rfl
theorem A3c:Ak.zero1 34= .own 70 []:=nr rfl
theorem A3d:Ak.size 34=1:=nr rfl
theorem AHW:Ak.ty 35= .struct [3,3,34,34]:=nr rfl
theorem A3e:Ak.ty 36= .struct [3,3,34,34]:=nr rfl
theorem A3f:Ak.known 36=true:=nr rfl
theorem A3g:Ak.isStruct 36=true:=nr rfl
theorem A3h:Ak.zeros 36=[.int .i64 0, .int .i64 0, .own 70 [], .own 70 []]:=nr rfl
theorem A3i:Ak.nest 36=none:=nr rfl
theorem A3j:Ak.size 36=4:=nr rfl
theorem AHX:Ak.ty 37= .func:=nr rfl
theorem AHY:Ak.ty 38= .func:=nr rfl
theorem A3k:Ak.ty 39= .struct [3,3,34,34]:=nr rfl
theorem A3l:Ak.known 39=true:=nr rfl
theorem A3m:Ak.isStruct 39=true:=nr rfl
theorem A3n:Ak.zeros 39=[.int .i64 0, .int .i64 0, .own 70 [], .own 70 []]:=nr rfl
theorem A3o:Ak.nest 39=none:=nr rfl
theorem A3p:Ak.size 39=4:=nr rfl
theorem AHZ:Ak.ty 40= .func:=nr rfl
theorem AHa:Ak.ty 41= .func:=nr rfl
theorem AHb:Ak.ty 42= .func:=nr rfl
theorem AHc:Ak.ty 44= .func:=nr rfl
theorem AHd:Ak.ty 45= .func:=nr rfl
theorem AHe:Ak.ty 46= .func:=nr rfl
theorem AHf:Ak.ty 47= .func:=nr rfl
theorem AHg:Ak.ty 48= .struct [3,3]:=nr rfl
theorem A3q:Ak.ty 49= .struct [3,3]:=nr rfl
theorem A3r:Ak.known 49=true:=nr rfl
theorem A3s:Ak.isStruct 49=true:=nr rfl
theorem A3t:Ak.zeros 49=[.int .i64 0, .int .i64 0]:=nr rfl
theorem A3u:Ak.nest 49=none:=nr rfl
theorem A3v:Ak.size 49=2:=nr rfl
theorem AHh:Ak.ty 50= .func:=nr rfl
theorem A3w:Ak.ty 51= .struct [3,3]:=nr rfl
theorem A3x:Ak.known 51=true:=nr rfl
theorem A3y:Ak.isStruct 51=true:=nr rfl
theorem A3z:Ak.zeros 51=[.int .i64 0, .int .i64 0]:=nr rfl
theorem A40:Ak.nest 51=none:=nr rfl
theorem A41:Ak.size 51=2:=nr rfl
theorem A42:Ak.ty 52= .slice 9:=nr rfl
theorem A43:Ak.known 52=true:=nr rfl
theorem A44:Ak.isStruct 52=false:=nr rfl
theorem A45:Ak.zeros 52=[.own 9 []]:=nr rfl
theorem A46:Ak.zero1 52= .own 9 []:=nr rfl
theorem A47:Ak.size 52=1:=nr rfl
theorem AHi:Ak.ty 53= .func:=nr rfl
theorem AHj:Ak.ty 54= .func:=nr rfl
theorem AHk:Ak.ty 55= .func:=nr rfl
theorem AHl:Ak.ty 56= .func:=nr rfl
theorem AHm:Ak.ty 57= .func:=nr rfl
theorem AHn:Ak.ty 58= .func:=nr rfl
theorem AHo:Ak.ty 59= .func:=nr rfl
theorem AHp:Ak.ty 60= .func:=nr rfl
theorem AHq:Ak.ty 61= .iface:=nr rfl
theorem A48:Ak.ty 62= .iface:=nr rfl
theorem AHr:Ak.ty 64= .func:=nr rfl
theorem AHs:Ak.ty 65= .func:=nr rfl
theorem AHt:Ak.ty 66= .func:=nr rfl
theorem AHu:Ak.ty 67= .func:=nr rfl
theorem AHv:Ak.ty 68= .func:=nr rfl
theorem AHw:Ak.ty 69= .func:=nr rfl
theorem A49:Ak.ty 70= .slice 3:=nr rfl
theorem A4A:Ak.known 70=true:=nr rfl
theorem A4B:Ak.isStruct 70=false:=nr rfl
theorem A4C:Ak.zeros 70=[.own 3 []]:=nr rfl
theorem A4D:Ak.zero1 70= .own 3 []:=nr rfl
theorem A4E:Ak.size 70=1:=nr rfl
theorem AHx:Ak.ty 72= .func:=nr rfl
theorem AHy:Ak.ty 74= .func:=nr rfl
theorem AHz:Ak.ty 75= .func:=nr rfl
theorem AI0:Ak.ty 76= .func:=nr rfl
theorem AI1:Ak.ty 77= .func:=nr rfl
theorem AI2:Ak.ty 78= .ptr:=nr rfl
theorem A4F:Ak.ty 79= .slice 5:=nr rfl
theorem A4G:Ak.known 79=true:=nr rfl
theorem A4H:Ak.isStruct 79=false:=nr rfl
theorem A4I:Ak.zeros 79=[.own 5 []]:=nr rfl
theorem A4J:Ak.zero1 79= .own 5 []:=nr rfl
theorem A4K:Ak.size 79=1:=nr rfl
theorem AI3:Ak.ty 80= .struct [78,79]:=nr rfl
theorem AI4:Ak.ty 81= .struct [78,79]:=nr rfl
theorem AI5:Ak.ty 82= .func:=nr rfl
theorem AI6:Ak.ty 83= .func:=nr rfl
theorem AI7:Ak.ty 84= .func:=nr rfl
theorem AI8:Ak.ty 85= .func:=nr rfl
theorem AI9:Ak.ty 86= .func:=nr rfl
theorem AIA:Ak.ty 87= .func:=nr rfl
theorem AIB:Ak.ty 88= .func:=nr rfl
theorem AIC:Ak.ty 89= .func:=nr rfl
theorem AID:Ak.ty 90= .func:=nr rfl
theorem AIE:Ak.ty 91= .func:=nr rfl
theorem AIF:Ak.ty 92= .func:=nr rfl
theorem AIG:Ak.ty 94= .func:=nr rfl
theorem AIH:Ak.ty 95= .func:=nr rfl
theorem AII:Ak.ty 96= .ptr:=nr rfl
theorem AIJ:Ak.ty 97= .func:=nr rfl
theorem AIK:Ak.ty 98= .func:=nr rfl
theorem AIL:Ak.ty 99= .int .i64:=nr rfl
theorem AE8:Ak.ty 101= .func:=nr rfl
theorem AE9:Ak.ty 102= .ptr:=nr rfl
theorem AEA:Ak.ty 103= .func:=nr rfl
theorem AEB:Ak.ty 104= .func:=nr rfl
theorem AEC:Ak.ty 105= .func:=nr rfl
theorem AED:Ak.ty 106= .func:=nr rfl
theorem AEE:Ak.ty 107= .func:=nr rfl
theorem AEF:Ak.ty 108= .arr 24 5:=nr rfl
theorem nE:Ak.ty 109= .int .u64:=nr rfl
theorem nG:Ak.known 109=true:=nr rfl
theorem nH:Ak.isStruct 109=false:=nr rfl
theorem nI:Ak.zeros 109=[.int .u64 0]:=nr rfl
theorem nJ:Ak.zero1 109= .int .u64 0:=nr rfl
theorem nK:Ak.size 109=1:=nr rfl
theorem AEG:Ak.ty 110= .func:=nr rfl
theorem AEH:Ak.ty 111= .func:=nr rfl
theorem AEI:Ak.ty 113= .func:=nr rfl
theorem AEJ:Ak.ty 115= .func:=nr rfl
theorem AEK:Ak.ty 116= .func:=nr rfl
theorem AEL:Ak.ty 118= .func:=nr rfl
theorem AEM:Ak.ty 119= .func:=nr rfl
theorem AEN:Ak.ty 121= .func:=nr rfl
theorem nL:Ak.ty 122= .int .u64:=nr rfl
theorem nM:Ak.known 122=true:=nr rfl
theorem nN:Ak.isStruct 122=false:=nr rfl
theorem nO:Ak.zeros 122=[.int .u64 0]:=nr rfl
theorem nP:Ak.zero1 122= .int .u64 0:=nr rfl
theorem nQ:Ak.size 122=1:=nr rfl
theorem AEO:Ak.ty 123= .func:=nr rfl
theorem AEP:Ak.ty 126= .func:=nr rfl
theorem AEQ:Ak.ty 127= .func:=nr rfl
theorem AER:Ak.ty 128= .func:=nr rfl
theorem nR:Ak.ty 129= .func:=nr rfl
theorem nS:Ak.known 129=true:=nr rfl
theorem nT:Ak.isStruct 129=false:=nr rfl
theorem nU:Ak.zeros 129=[.konst .nilFunc]:=nr rfl
theorem nV:Ak.zero1 129= .konst .nilFunc:=nr rfl
theorem nW:Ak.size 129=1:=nr rfl
theorem AES:Ak.ty 130= .func:=nr rfl
theorem AET:Ak.ty 131= .func:=nr rfl
theorem AEU:Ak.ty 132= .func:=nr rfl
theorem nX:Ak.ty 134= .int .u32:=nr rfl
theorem nY:Ak.known 134=true:=nr rfl
theorem nZ:Ak.isStruct 134=false:=nr rfl
theorem ng:Ak.zeros 134=[.int .u32 0]:=nr rfl
theorem ni:Ak.zero1 134= .int .u32 0:=nr rfl
theorem nk:Ak.size 134=1:=nr rfl
theorem AEV:Ak.ty 135= .arr 65 5:=nr rfl
theorem AEW:Ak.ty 136= .func:=nr rfl
theorem AEX:Ak.ty 137= .func:=nr rfl
theorem AEY:Ak.ty 138= .ptr:=nr rfl
theorem AEZ:Ak.ty 139= .struct [9]:=nr rfl
theorem AEa:Ak.ty 140= .struct [9]:=nr rfl
theorem AEb:Ak.ty 141= .func:=nr rfl
theorem AEc:Ak.ty 142= .func:=nr rfl
theorem AEd:Ak.ty 144= .struct [5,5]:=nr rfl
theorem AEe:Ak.ty 145= .struct [5,5]:=nr rfl
theorem AEf:Ak.ty 148= .func:=nr rfl
theorem AEg:Ak.ty 149= .arr 32 5:=nr rfl
theorem AEh:Ak.ty 150= .arr 64 5:=nr rfl
theorem AEi:Ak.ty 151= .struct [17,17,17,9]:=nr rfl
theorem AEj:Ak.ty 152= .struct [17,17,17,9]:=nr rfl
theorem AEk:Ak.ty 156= .int .u8:=nr rfl
theorem AEl:Ak.ty 157= .int .u8:=nr rfl
theorem AEm:Ak.ty 158= .func:=nr rfl
theorem AEn:Ak.ty 159= .int .i32:=nr rfl
theorem AEo:Ak.ty 160= .int .i32:=nr rfl
theorem AEp:Ak.ty 161= .struct [12,12,134,156,5,5,157,158,96,159,160]:=nr rfl
theorem AEq:Ak.ty 162= .struct [12,12,134,156,5,5,157,158,96,159,160]:=nr rfl
theorem le3:lends 3=false:=nr rfl
theorem le4:lends 4=false:=nr rfl
theorem le5:lends 5=false:=nr rfl
theorem le6:lends 6=false:=nr rfl
theorem le7:lends 7=false:=nr rfl
theorem le8:lends 8=false:=nr rfl
theorem le9:lends 9=false:=nr rfl
theorem A4L:lends 10=false:=nr rfl
theorem A4M:lends 11=false:=nr rfl
theorem A4N:lends 12=false:=nr rfl
theorem A4O:lends 13=false:=nr rfl
theorem A4P:lends 14=true:=nr rfl
theorem A4Q:lends 15=false:=nr rfl
theorem A4R:lends 16=false:=nr rfl
theorem A4S:lends 17=false:=nr rfl
theorem A4T:lends 18=false:=nr rfl
theorem A4U:lends 19=false:=nr rfl
theorem A4V:lends 20=false:=nr rfl
theorem A4W:lends 21=false:=nr rfl
theorem A4X:lends 22=false:=nr rfl
theorem A4Y:lends 23=true:=nr rfl
theorem A4Z:lends 24=false:=nr rfl
theorem A4a:lends 25=false:=nr rfl
theorem A4b:lends 26=false:=nr rfl
theorem A4c:lends 27=false:=nr rfl
theorem A4d:lends 28=false:=nr rfl
theorem A4e:lends 29=false:=nr rfl
theorem A4f:lends 30=false:=nr rfl
theorem A4g:lends 31=false:=nr rfl
theorem A4h:lends 32=false:=nr rfl
theorem A4i:lends 33=false:=nr rfl
theorem A4j:lends 34=false:=nr rfl
theorem A4k:lends 35=false:=nr rfl
theorem A4l:lends 36=false:=nr rfl
theorem A4m:lends 37=false:=nr rfl
theorem A4n:lends 38=false:=nr rfl
theorem A4o:lends 39=false:=nr rfl
theorem A4p:lends 40=false:=nr rfl
theorem A4q:lends 41=false:=nr rfl
theorem A4r:lends 42=false:=nr rfl
theorem A4s:lends 43=false:=nr rfl
theorem A4t:lends 44=false:=nr rfl
theorem A4u:lends 45=false:=nr rfl
theorem A4v:lends 46=false:=nr rfl
theorem A4w:lends 47=false:=nr rfl
theorem A4x:lends 48=false:=nr rfl
theorem A4y:lends 49=true:=nr rfl
theorem A4z:lends 50=false:=nr rfl
theorem A50:lends 51=false:=nr rfl
theorem A51:lends 52=false:=nr rfl
theorem A52:lends 53=false:=nr rfl
theorem A53:lends 54=false:=nr rfl
theorem A54:lends 55=false:=nr rfl
theorem A55:lends 56=false:=nr rfl
theorem A56:lends 57=false:=nr rfl
theorem A57:lends 58=false:=nr rfl
theorem A58:lends 59=false:=nr rfl
theorem A59:lends 60=false:=nr rfl
theorem A5A:lends 61=false:=nr rfl
theorem A5B:lends 62=false:=nr rfl
theorem A5C:lends 63=false:=nr rfl
theorem A5D:lends 64=false:=nr rfl
theorem A5E:lends 65=false:=nr rfl
theorem A5F:lends 66=false:=nr rfl
theorem A5G:lends 67=false:=nr rfl
theorem A5H:lends 68=false:=nr rfl
theorem A5I:lends 69=false:=nr rfl
theorem A5J:lends 70=false:=nr rfl
theorem A5K:lends 71=false:=nr rfl
theorem A5L:lends 72=false:=nr rfl
theorem A5M:lends 73=true:=nr rfl
theorem A5N:lends 74=false:=nr rfl
theorem A5O:lends 75=false:=nr rfl
theorem A5P:lends 76=false:=nr rfl
theorem A5Q:lends 77=false:=nr rfl
theorem A5R:lends 78=false:=nr rfl
theorem A5S:lends 79=false:=nr rfl
theorem A5T:lends 80=false:=nr rfl
theorem A5U:lends 81=false:=nr rfl
theorem A5V:lends 82=false:=nr rfl
theorem A5W:lends 83=false:=nr rfl
theorem A5X:lends 84=false:=nr rfl
theorem A5Y:lends 85=false:=nr rfl
theorem A5Z:lends 86=false:=nr rfl
theorem A5a:lends 87=false:=nr rfl
theorem A5b:lends 88=false:=nr rfl
theorem A5c:lends 89=false:=nr rfl
theorem A5d:lends 90=false:=nr rfl
theorem A5e:lends 91=false:=nr rfl
theorem A5f:lends 92=false:=nr rfl
theorem A5g:lends 93=false:=nr rfl
theorem A5h:lends 94=false:=nr rfl
theorem A5i:lends 95=false:=nr rfl
theorem A5j:lends 96=false:=nr rfl
theorem A5k:lends 97=false:=nr rfl
theorem A5l:lends 98=false:=nr rfl
theorem A5m:lends 99=false:=nr rfl
theorem nu:lends 100=false:=nr rfl
theorem ny:lends 101=false:=nr rfl
theorem nz:lends 102=false:=nr rfl
theorem oC:lends 103=false:=nr rfl
theorem oD:lends 104=false:=nr rfl
theorem oF:lends 105=false:=nr rfl
theorem oG:lends 106=false:=nr rfl
theorem oH:lends 107=false:=nr rfl
theorem iQ:lends 108=false:=nr rfl
theorem oI:lends 109=false:=nr rfl
theorem oJ:lends 110=false:=nr rfl
theorem oK:lends 111=false:=nr rfl
theorem oL:lends 112=false:=nr rfl
theorem oM:lends 113=false:=nr rfl
theorem oN:lends 114=false:=nr rfl
theorem oO:lends 115=false:=nr rfl
theorem oP:lends 116=false:=nr rfl
theorem oQ:lends 117=false:=nr rfl
theorem oU:lends 118=false:=nr rfl
theorem oV:lends 119=false:=nr rfl
theorem oW:lends 120=false:=nr rfl
theorem oZ:lends 121=false:=nr rfl
theorem og:lends 122=false:=nr rfl
theorem ol:lends 123=false:=nr rfl
theorem oo:lends 124=false:=nr rfl
theorem oq:lends 125=false:=nr rfl
theorem ou:lends 126=false:=nr rfl
theorem ow:lends 127=false:=nr rfl
theorem oz:lends 128=false:=nr rfl
theorem p8:lends 129=false:=nr rfl
theorem p9:lends 130=false:=nr rfl
theorem pE:lends 131=false:=nr rfl
theorem pF:lends 132=false:=nr rfl
theorem pG:lends 133=false:=nr rfl
theorem pI:lends 134=false:=nr rfl
theorem pJ:lends 135=false:=nr rfl
theorem pK:lends 136=false:=nr rfl
theorem pM:lends 137=false:=nr rfl
theorem pO:lends 138=false:=nr rfl
theorem pQ:lends 139=false:=nr rfl
theorem pR:lends 140=false:=nr rfl
theorem pU:lends 141=false:=nr rfl
theorem pV:lends 142=false:=nr rfl
theorem pW:lends 143=false:=nr rfl
theorem pX:lends 144=false:=nr rfl
theorem pY:lends 145=false:=nr rfl
theorem pg:lends 146=false:=nr rfl
theorem pq:lends 147=false:=nr rfl
theorem pu:lends 148=false:=nr rfl
theorem pz:lends 149=false:=nr rfl
set_option maxRecDepth 100000 in
theorem vK:BU Tryd.prog Ak:=bu (T:=Yd bT kV) (rU (by kernel_rfl)) _
theorem mixed:Tryd.prog.follows .mixedOrders=true:=by kernel_rfl
noncomputable def Y0:Dv.Sys:={P:=Tryd.prog,T:=Ak,lends:=lends,base:=fun _ _ _=>none}
theorem AIM:Dv.Sys.Ok Y0:=⟨vK,mixed,fun _ _ _ _ _ h=>by cases h⟩
theorem ABy(T:Tys)(s:St)(t:TypeId):ev T s t (.const .nilFunc)=some (.konst .nilFunc):=nr rfl
theorem ABz(T:Tys)(s:St)(t:TypeId):ev T s t (.const .nilIface)=some (.konst .nilIface):=nr rfl
theorem AC0(T:Tys)(s:St)(t:TypeId):ev T s t (.const (.pointer none))=some (.konst (.pointer none)):=nr rfl
theorem y0T:Y0.T=Ak:=nr rfl
theorem y0L:Y0.lends=lends:=nr rfl
set_option maxRecDepth 10000 in
set_option linter.defProp false in
def AEy:=
 And.intro @y0T (
 And.intro @y0L (
 And.intro @ty3 (
 And.intro @ty4 (
 And.intro @ty5 (
 And.intro @ty9 (
 And.intro @A3G (
 And.intro @A3H (
 And.intro @A3M (
 And.intro @A3S (
 And.intro @A3Y (
 And.intro @A3e (
 And.intro @A3k (
 And.intro @A3q (
 And.intro @A3w (
 And.intro @A42 (
 And.intro @A48 (
 And.intro @A49 (
 And.intro @A4F (
 And.intro @nE (
 And.intro @nL (
 And.intro @nR (
 And.intro @nX (
 And.intro @kn3 (
 And.intro @st3 (
 And.intro @sz3 (
 And.intro @zr3 (
 And.intro @kn4 (
 And.intro @st4 (
 And.intro @sz4 (
 And.intro @zr4 (
 And.intro @kn5 (
 And.intro @st5 (
 And.intro @sz5 (
 And.intro @zr5 (
 And.intro @kn9 (
 And.intro @st9 (
 And.intro @sz9 (
 And.intro @zr9 (
 And.intro @A3I (
 And.intro @vG (
 And.intro @A3L (
 And.intro @A3J (
 And.intro @A3N (
 And.intro @A3O (
 And.intro @A3R (
 And.intro @A3P (
 And.intro @A3T (
 And.intro @A3U (
 And.intro @A3X (
 And.intro @A3V (
 And.intro @A3Z (
 And.intro @A3a (
 And.intro @A3d (
 And.intro @A3b (
 And.intro @A3f (
 And.intro @A3g (
 And.intro @A3j (
 And.intro @A3h (
 And.intro @A3l (
 And.intro @A3m (
 And.intro @A3p (
 And.intro @A3n (
 And.intro @A3r (
 And.intro @A3s (
 And.intro @A3v (
 And.intro @A3t (
 And.intro @A3x (
 And.intro @A3y (
 And.intro @A41 (
 And.intro @A3z (
 And.intro @A43 (
 And.intro @A44 (
 And.intro @A47 (
 And.intro @A45 (
 And.intro @A4A (
 And.intro @A4B (
 And.intro @A4E (
 And.intro @A4C (
 And.intro @A4G (
 And.intro @A4H (
 And.intro @A4K (
 And.intro @A4I (
 And.intro @nG (
 And.intro @nH (
 And.intro @nK (
 And.intro @nI (
 And.intro @nM (
 And.intro @nN (
 And.intro @nQ (
 And.intro @nO (
 And.intro @nS (
 And.intro @nT (
 And.intro @nW (
 And.intro @nU (
 And.intro @nY (
 And.intro @nZ (
 And.intro @nk (
 And.intro @ng (
 And.intro @A3i (
 And.intro @A3o (
 And.intro @A3u (
 And.intro @A40 (
 And.intro @zo3 (
 And.intro @zo4 (
 And.intro @zo5 (
 And.intro @zo9 (
 And.intro @A3K (
 And.intro @A3Q (
 And.intro @A3W (
 And.intro @A3c (
 And.intro @A46 (
 And.intro @A4D (
 And.intro @A4J (
 And.intro @nJ (
 And.intro @nP (
 And.intro @nV (
 And.intro @ni (
 And.intro @le3 (
 And.intro @le4 (
 And.intro @le5 (
 And.intro @le6 (
 And.intro @le7 (
 And.intro @le8 (
 And.intro @le9 (
 And.intro @A4L (
 And.intro @A4M (
 And.intro @A4N (
 And.intro @A4O (
 And.intro @A4P (
 And.intro @A4Q (
 And.intro @A4R (
 And.intro @A4S (
 And.intro @A4T (
 And.intro @A4U (
 And.intro @A4V (
 And.intro @A4W (
 And.intro @A4X (
 And.intro @A4Y (
 And.intro @A4Z (
 And.intro @A4a (
 And.intro @A4b (
 And.intro @A4c (
 And.intro @A4d (
 And.intro @A4e (
 And.intro @A4f (
 And.intro @A4g (
 And.intro @A4h (
 And.intro @A4i (
 And.intro @A4j (
 And.intro @A4k (
 And.intro @A4l (
 And.intro @A4m (
 And.intro @A4n (
 And.intro @A4o (
 And.intro @A4p (
 And.intro @A4q (
 And.intro @A4r (
 And.intro @A4s (
 And.intro @A4t (
 And.intro @A4u (
 And.intro @A4v (
 And.intro @A4w (
 And.intro @A4x (
 And.intro @A4y (
 And.intro @A4z (
 And.intro @A50 (
 And.intro @A51 (
 And.intro @A52 (
 And.intro @A53 (
 And.intro @A54 (
 And.intro @A55 (
 And.intro @A56 (
 And.intro @A57 (
 And.intro @A58 (
 And.intro @A59 (
 And.intro @A5A (
 And.intro @A5B (
 And.intro @A5C (
 And.intro @A5D (
 And.intro @A5E (
 And.intro @A5F (
 And.intro @A5G (
 And.intro @A5H (
 And.intro @A5I (
 And.intro @A5J (
 And.intro @A5K (
 And.intro @A5L (
 And.intro @A5M (
 And.intro @A5N (
 And.intro @A5O (
 And.intro @A5P (
 And.intro @A5Q (
 And.intro @A5R (
 And.intro @A5S (
 And.intro @A5T (
 And.intro @A5U (
 And.intro @A5V (
 And.intro @A5W (
 And.intro @A5X (
 And.intro @A5Y (
 And.intro @A5Z (
 And.intro @A5a (
 And.intro @A5b (
 And.intro @A5c (
 And.intro @A5d (
 And.intro @A5e (
 And.intro @A5f (
 And.intro @A5g (
 And.intro @A5h (
 And.intro @A5i (
 And.intro @A5j (
 And.intro @A5k (
 And.intro @A5l (
 And.intro @A5m (
 And.intro @nu (
 And.intro @ny (
 And.intro @nz (
 And.intro @oC (
 And.intro @oD (
 And.intro @oF (
 And.intro @oG (
 And.intro @oH (
 And.intro @iQ (
 And.intro @oI (
 And.intro @oJ (
 And.intro @oK (
 And.intro @oL (
 And.intro @oM (
 And.intro @oN (
 And.intro @oO (
 And.intro @oP (
 And.intro @oQ (
 And.intro @oU (
 And.intro @oV (
 And.intro @oW (
 And.intro @oZ (
 And.intro @og (
 And.intro @ol (
 And.intro @oo (
 And.intro @oq (
 And.intro @ou (
 And.intro @ow (
 And.intro @oz (
 And.intro @p8 (
 And.intro @p9 (
 And.intro @pE (
 And.intro @pF (
 And.intro @pG (
 And.intro @pI (
 And.intro @pJ (
 And.intro @pK (
 And.intro @pM (
 And.intro @pO (
 And.intro @pQ (
 And.intro @pR (
 And.intro @pU (
 And.intro @pV (
 And.intro @pW (
 And.intro @pX (
 And.intro @pY (
 And.intro @pg (
 And.intro @pq (
 And.intro @pu (@pz))))))))))))))))))))))))))))))))))))))))))))))))))))))))))))))))))))))))))))))))))))))))))))))))))))))))))))))))))))))))))))))))))))))))))))))))))))))))))))))))))))))))))))))))))))))))))))))))))))))))))))))))))))))))))))))))))))))))))))))))))))))))))))))))))))))))
def iR(f:FuncId)(a l:List D):Option (D×List D):=
 match f,a,l with
 |_,_,_=>none
theorem lT: ∀f a l r outs,iR f a l=some (r,outs)→Dv.Good Tryd.prog Ak f a l r outs:=by
 intro f a l r outs h
 unfold iR at h
 split at h
 ·cases h
theorem iT: ∀n:Int,-9223372036854775808≤n∧n≤9223372036854775807→Dv.Good Tryd.prog Ak 29 [.int .i64 n] [] (.str (G5 n)) []:=fun n h=>
 bv (g:=2) ⟨Tryd.f29,Tryd.func29,rfl,by decide⟩ (by kernel_rfl) (.head _) (fun n h0 h1 w ht=>Tryd.strconv_Itoa n h0 h1 w ht) n h
theorem iU: ∀(xs:List ByteArray) (sep:ByteArray),xs.length<1099511627776→(Hw xs sep).size<1099511627776→Dv.Good Tryd.prog Ak 31 [.sl 9 (AJ D.str xs), .str sep] [] (.str (Hw xs sep)) []:=fun xs sep h1 h2=>
 bz ⟨Tryd.f31,Tryd.func31,rfl,by decide⟩ sz9 (fun a c sep w=>Tryd.strings_Join_none a c sep w) (fun bk o c xs sep w h1 h2 h3 h4 h5=>Tryd.strings_Join bk o c xs sep w h1 h2 h3 h4 h5) xs sep h1 h2
theorem cK: ∀(s sep:ByteArray),s.size<4294967281→1≤sep.size→Dv.Good Tryd.prog Ak 36 [.str s, .str sep] [] (.own 9 (AJ D.str (Bl s sep))) []:=fun s sep h1 h2=>
 Z5 (g:=3) ⟨Tryd.f36,Tryd.func36,rfl,by decide⟩ sz9 (.tail _ (.head _)) (fun s sep m w h0 h1 h2=>Tryd.strings_Split s sep m w h0 h1 h2) s sep h1 h2
theorem iV: ∀s:ByteArray,s.size≤281474976710656→Dv.Good Tryd.prog Ak 38 [.str s] [] (match Nt s with| .inl q=> .tup [.int .i64 q, .konst .nilIface]| .inr q=> .tup [.int .i64 q, .err]) []:=fun s h=>
 cB (g1:=0) (g2:=1) ⟨Tryd.f38,Tryd.func38,rfl,by decide⟩ (.tail _ (.tail _ (.head _))) (.tail _ (.tail _ (.tail _ (.head _)))) (fun s h v hv w=>Tryd.strconv_Atoi_ok s h v hv w) (fun s h hv ev w h1 h2=>Tryd.strconv_Atoi_syntax s h hv ev w h1 h2) (fun s h hv ev w h1 h2=>Tryd.strconv_Atoi_range s h hv ev w h1 h2) s h
noncomputable def Y:Dv.Sys:={P:=Tryd.prog,T:=Ak,lends:=lends,base:=Jz (Hy 38) (Jz (H7 36 9) (Jz (JY 31 9) (Jz (KR 29) (iR))))}
theorem yOk:Dv.Sys.Ok Y:=⟨vK,mixed,Jm (SY iV) (Jm (RF cK) (Jm (Sb iU) (Jm (Sa iT) (lT))))⟩
theorem iW:Ak.ty 900013= .other:=nr rfl
theorem yT:Y.T=Ak:=nr rfl
theorem yL:Y.lends=lends:=nr rfl
set_option maxRecDepth 10000 in
set_option linter.defProp false in
def AP:=
 And.intro @iW (
 And.intro @yT (
 And.intro @yL (
 And.intro @ABy (
 And.intro @ABz (
 And.intro @AC0 (
 And.intro @ty3 (
 And.intro @ty4 (
 And.intro @ty5 (
 And.intro @ty9 (
 And.intro @A3G (
 And.intro @A3H (
 And.intro @A3M (
 And.intro @A3S (
 And.intro @A3Y (
 And.intro @A3e (
 And.intro @A3k (
 And.intro @A3q (
 And.intro @A3w (
 And.intro @A42 (
 And.intro @A48 (
 And.intro @A49 (
 And.intro @A4F (
 And.intro @nE (
 And.intro @nL (
 And.intro @nR (
 And.intro @nX (
 And.intro @kn3 (
 And.intro @st3 (
 And.intro @sz3 (
 And.intro @zr3 (
 And.intro @kn4 (
 And.intro @st4 (
 And.intro @sz4 (
 And.intro @zr4 (
 And.intro @kn5 (
 And.intro @st5 (
 And.intro @sz5 (
 And.intro @zr5 (
 And.intro @kn9 (
 And.intro @st9 (
 And.intro @sz9 (
 And.intro @zr9 (
 And.intro @A3I (
 And.intro @vG (
 And.intro @A3L (
 And.intro @A3J (
 And.intro @A3N (
 And.intro @A3O (
 And.intro @A3R (
 And.intro @A3P (
 And.intro @A3T (
 And.intro @A3U (
 And.intro @A3X (
 And.intro @A3V (
 And.intro @A3Z (
 And.intro @A3a (
 And.intro @A3d (
 And.intro @A3b (
 And.intro @A3f (
 And.intro @A3g (
 And.intro @A3j (
 And.intro @A3h (
 And.intro @A3l (
 And.intro @A3m (
 And.intro @A3p (
 And.intro @A3n (
 And.intro @A3r (
 And.intro @A3s (
 And.intro @A3v (
 And.intro @A3t (
 And.intro @A3x (
 And.intro @A3y (
 And.intro @A41 (
 And.intro @A3z (
 And.intro @A43 (
 And.intro @A44 (
 And.intro @A47 (
 And.intro @A45 (
 And.intro @A4A (
 And.intro @A4B (
 And.intro @A4E (
 And.intro @A4C (
 And.intro @A4G (
 And.intro @A4H (
 And.intro @A4K (
 And.intro @A4I (
 And.intro @nG (
 And.intro @nH (
 And.intro @nK (
 And.intro @nI (
 And.intro @nM (
 And.intro @nN (
 And.intro @nQ (
 And.intro @nO (
 And.intro @nS (
 And.intro @nT (
 And.intro @nW (
 And.intro @nU (
 And.intro @nY (
 And.intro @nZ (
 And.intro @nk (
 And.intro @ng (
 And.intro @A3i (
 And.intro @A3o (
 And.intro @A3u (
 And.intro @A40 (
 And.intro @zo3 (
 And.intro @zo4 (
 And.intro @zo5 (
 And.intro @zo9 (
 And.intro @A3K (
 And.intro @A3Q (
 And.intro @A3W (
 And.intro @A3c (
 And.intro @A46 (
 And.intro @A4D (
 And.intro @A4J (
 And.intro @nJ (
 And.intro @nP (
 And.intro @nV (
 And.intro @ni (
 And.intro @le3 (
 And.intro @le4 (
 And.intro @le5 (
 And.intro @le6 (
 And.intro @le7 (
 And.intro @le8 (
 And.intro @le9 (
 And.intro @A4L (
 And.intro @A4M (
 And.intro @A4N (
 And.intro @A4O (
 And.intro @A4P (
 And.intro @A4Q (
 And.intro @A4R (
 And.intro @A4S (
 And.intro @A4T (
 And.intro @A4U (
 And.intro @A4V (
 And.intro @A4W (
 And.intro @A4X (
 And.intro @A4Y (
 And.intro @A4Z (
 And.intro @A4a (
 And.intro @A4b (
 And.intro @A4c (
 And.intro @A4d (
 And.intro @A4e (
 And.intro @A4f (
 And.intro @A4g (
 And.intro @A4h (
 And.intro @A4i (
 And.intro @A4j (
 And.intro @A4k (
 And.intro @A4l (
 And.intro @A4m (
 And.intro @A4n (
 And.intro @A4o (
 And.intro @A4p (
 And.intro @A4q (
 And.intro @A4r (
 And.intro @A4s (
 And.intro @A4t (
 And.intro @A4u (
 And.intro @A4v (
 And.intro @A4w (
 And.intro @A4x (
 And.intro @A4y (
 And.intro @A4z (
 And.intro @A50 (
 And.intro @A51 (
 And.intro @A52 (
 And.intro @A53 (
 And.intro @A54 (
 And.intro @A55 (
 And.intro @A56 (
 And.intro @A57 (
 And.intro @A58 (
 And.intro @A59 (
 And.intro @A5A (
 And.intro @A5B (
 And.intro @A5C (
 And.intro @A5D (
 And.intro @A5E (
 And.intro @A5F (
 And.intro @A5G (
 And.intro @A5H (
 And.intro @A5I (
 And.intro @A5J (
 And.intro @A5K (
 And.intro @A5L (
 And.intro @A5M (
 And.intro @A5N (
 And.intro @A5O (
 And.intro @A5P (
 And.intro @A5Q (
 And.intro @A5R (
 And.intro @A5S (
 And.intro @A5T (
 And.intro @A5U (
 And.intro @A5V (
 And.intro @A5W (
 And.intro @A5X (
 And.intro @A5Y (
 And.intro @A5Z (
 And.intro @A5a (
 And.intro @A5b (
 And.intro @A5c (
 And.intro @A5d (
 And.intro @A5e (
 And.intro @A5f (
 And.intro @A5g (
 And.intro @A5h (
 And.intro @A5i (
 And.intro @A5j (
 And.intro @A5k (
 And.intro @A5l (
 And.intro @A5m (
 And.intro @nu (
 And.intro @ny (
 And.intro @nz (
 And.intro @oC (
 And.intro @oD (
 And.intro @oF (
 And.intro @oG (
 And.intro @oH (
 And.intro @iQ (
 And.intro @oI (
 And.intro @oJ (
 And.intro @oK (
 And.intro @oL (
 And.intro @oM (
 And.intro @oN (
 And.intro @oO (
 And.intro @oP (
 And.intro @oQ (
 And.intro @oU (
 And.intro @oV (
 And.intro @oW (
 And.intro @oZ (
 And.intro @og (
 And.intro @ol (
 And.intro @oo (
 And.intro @oq (
 And.intro @ou (
 And.intro @ow (
 And.intro @oz (
 And.intro @p8 (
 And.intro @p9 (
 And.intro @pE (
 And.intro @pF (
 And.intro @pG (
 And.intro @pI (
 And.intro @pJ (
 And.intro @pK (
 And.intro @pM (
 And.intro @pO (
 And.intro @pQ (
 And.intro @pR (
 And.intro @pU (
 And.intro @pV (
 And.intro @pW (
 And.intro @pX (
 And.intro @pY (
 And.intro @pg (
 And.intro @pq (
 And.intro @pu (@pz))))))))))))))))))))))))))))))))))))))))))))))))))))))))))))))))))))))))))))))))))))))))))))))))))))))))))))))))))))))))))))))))))))))))))))))))))))))))))))))))))))))))))))))))))))))))))))))))))))))))))))))))))))))))))))))))))))))))))))))))))))))))))))))))))))))))))))
theorem Zp(n:Int)(h: -9223372036854775808≤n∧n≤9223372036854775807):Y.call 29 [.int .i64 n] []=some (.str (G5 n),[]):=Dv.Sys.call_base (GK (h:=Hy 38) rfl<|GK (h:=H7 36 9) rfl<|GK (h:=JY 31 9) rfl<|Jn (h:=KR 29)<|XJ 29 n h)
theorem lU(s:ByteArray){r:Int⊕Int}(h:Nu s=some r):Y.call 38 [.str s] []=some (match (generalizing:=false) r with| .inl q=>(D.tup [D.int .i64 q,D.konst .nilIface],[])| .inr q=>(D.tup [D.int .i64 q,D.err],[])):=Dv.Sys.call_base (Jn (h:=Hy 38)<|XI 38 s h)
theorem lV(xs:List ByteArray)(sep:ByteArray)(h:xs.length<1099511627776∧(Hw xs sep).size<1099511627776):Y.call 31 [.sl 9 (AJ D.str xs), .str sep] []=some (.str (Hw xs sep),[]):=Dv.Sys.call_base (GK (h:=Hy 38) rfl<|GK (h:=H7 36 9) rfl<|Jn (h:=JY 31 9)<|XN 31 9 xs sep h)
theorem XO(s sep:ByteArray)(h:s.size<4294967281∧1≤sep.size):Y.call 36 [.str s, .str sep] []=some (.own 9 (AJ D.str (Bl s sep)),[]):=Dv.Sys.call_base (GK (h:=Hy 38) rfl<|Jn (h:=H7 36 9)<|Uo 36 9 s sep h)
end Go.Proofs.YtaogbcdlpgfplaaDoor
