/- The types of this seat as data, and the system of its calls. Conditions: none. -/
import Derived.Test.YtipfckompmhljaaRows
import Derived.Test.YtipfckompmhljaaL6
import Derived.Test.YtipfckompmhljaaSv
import Derived.KernelRfl
namespace Go.Proofs.Ytipfckompmhljaa
open Go Dv
set_option linter.unusedSimpArgs false
set_option maxRecDepth 100000
def oW:List Ty:=[.other, .func, .int .i64, .int .i64, .bool, .int .u8, .int .u8, .struct [2,3,4,6], .struct [2,3,4,6], .string, .string, .string, .int .u64, .struct [9,12], .struct [9,12], .ptr, .ptr, .ptr, .struct [17], .struct [17], .other, .int .i32, .slice 97, .slice 3, .struct [22,23,23], .struct [22,23,23], .func, .other, .func, .slice 100, .struct [29,23,23], .struct [29,23,23], .func, .func, .func, .func, .func, .other, .func, .func, .func, .func, .func, .func, .slice 23, .struct [3,3,44,44], .struct [3,3,44,44], .func, .other, .func, .struct [3,3,44,44], .func, .func, .func, .func, .other, .func, .func, .func, .func, .func, .func, .func, .func, .func, .func, .func, .func, .func, .func, .func, .other, .func, .func, .func, .slice 78, .func, .struct [3,3,3,3], .struct [3,3,3,3], .other, .func, .func, .func, .struct [3,3,44,44,3,3,44,44], .struct [3,3,44,44,3,3,44,44], .func, .func, .ptr, .struct [3,3,44,44,3,3,44,44,23], .struct [3,3,44,44,3,3,44,44,23], .func, .func, .func, .func, .func, .func, .func, .slice 141, .func, .func, .slice 102, .struct [3,3], .struct [3,3], .func, .func, .func, .func, .func, .func, .func, .func, .slice 113, .func, .slice 4, .func, .func, .func, .func, .func, .func, .func, .func, .func, .func, .func, .func, .func, .func, .func, .int .u64, .func, .func, .func, .func, .slice 44, .other, .func, .func, .func, .func, .func, .struct [3,3], .func, .func, .func, .func, .map 102 102, .func, .func, .func, .func, .func, .func, .func, .func, .func, .func, .int .u32, .other, .func, .int .u64, .other, .func, .func, .func, .func, .func, .func, .other, .func, .func, .func, .func, .func, .other, .func, .func, .func, .int .i64, .other, .func, .func, .func, .func, .func, .func, .int .u64, .func, .func, .func, .ptr, .func, .func, .ptr, .other, .func, .func, .struct [17,17,17,9], .struct [17,17,17,9], .other, .other, .other, .func, .int .u8, .int .u8, .func, .ptr, .int .i32, .int .i32, .struct [12,12,157,203,5,5,204,205,206,207,208], .struct [12,12,157,203,5,5,204,205,206,207,208]]
def ry:List (TypeId×List (Nat×TypeId)):=[(83,[(0,50),(4,50)]),(84,[(0,50),(4,50)]),(88,[(0,50),(4,50),(8,23)]),(89,[(0,50),(4,50),(8,23)])]
def AX:Tys:=gU oW ry
def lends(f:FuncId):Bool:=[17,18,28,48,61,63,97,127].contains f
theorem ty1:AX.ty 1= .func:=nr rfl
theorem ty2:AX.ty 2= .int .i64:=nr rfl
theorem ty3:AX.ty 3= .int .i64:=nr rfl
theorem kn3:AX.known 3=true:=nr rfl
theorem st3:AX.isStruct 3=false:=nr rfl
theorem zr3:AX.zeros 3=[.int .i64 0]:=nr rfl
theorem zo3:AX.zero1 3= .int .i64 0:=nr rfl
theorem sz3:AX.size 3=1:=nr rfl
theorem ty4:AX.ty 4= .bool:=nr rfl
theorem kn4:AX.known 4=true:=nr rfl
theorem st4:AX.isStruct 4=false:=nr rfl
theorem zr4:AX.zeros 4=[.bool false]:=nr rfl
theorem zo4:AX.zero1 4= .bool false:=nr rfl
theorem sz4:AX.size 4=1:=nr rfl
theorem ty5:AX.ty 5= .int .u8:=nr rfl
theorem kn5:AX.known 5=true:=nr rfl
theorem st5:AX.isStruct 5=false:=nr rfl
theorem zr5:AX.zeros 5=[.int .u8 0]:=nr rfl
theorem zo5:AX.zero1 5= .int .u8 0:=nr rfl
theorem sz5:AX.size 5=1:=nr rfl
theorem ty6:AX.ty 6= .int .u8:=nr rfl
theorem ty7:AX.ty 7= .struct [2,3,4,6]:=nr rfl
theorem ty8:AX.ty 8= .struct [2,3,4,6]:=nr rfl
theorem ty9:AX.ty 9= .string:=nr rfl
theorem ALy:AX.ty 10= .string:=nr rfl
theorem ALz:AX.ty 11= .string:=nr rfl
theorem AM0:AX.ty 12= .int .u64:=nr rfl
theorem AM1:AX.ty 13= .struct [9,12]:=nr rfl
theorem AM2:AX.ty 14= .struct [9,12]:=nr rfl
theorem AM3:AX.ty 15= .ptr:=nr rfl
theorem AM4:AX.ty 16= .ptr:=nr rfl
theorem AM5:AX.ty 17= .ptr:=nr rfl
theorem AM6:AX.ty 18= .struct [17]:=nr rfl
theorem AM7:AX.ty 19= .struct [17]:=nr rfl
theorem AM8:AX.ty 21= .int .i32:=nr rfl
theorem A1Z:AX.ty 22= .slice 97:=nr rfl
theorem A7f:AX.known 22=true:=nr rfl
theorem A7g:AX.isStruct 22=false:=nr rfl
theorem A7h:AX.zeros 22=[.own 97 []]:=nr rfl
theorem A7i:AX.zero1 22= .own 97 []:=nr rfl
theorem A7j:AX.size 22=1:=nr rfl
theorem A1a:AX.ty 23= .slice 3:=nr rfl
theorem A1b:AX.known 23=true:=nr rfl
theorem A7k:AX.isStruct 23=false:=nr rfl
theorem A7l:AX.zeros 23=[.own 3 []]:=nr rfl
theorem A7m:AX.zero1 23= .own 3 []:=nr rfl
theorem A1c:AX.size 23=1:=nr rfl
theorem AM9:AX.ty 24= .struct [22,23,23]:=nr rfl
theorem A1d:AX.ty 25= .struct [22,23,23]:=nr rfl
theorem A7n:AX.known 25=true:=nr rfl
theorem A7o:AX.isStruct 25=true:=nr rfl
theorem A7p:AX.zeros 25=[.own 97 [], .own 3 [], .own 3 []]:=nr rfl
theorem A7q:AX.nest 25=none:=nr rfl
theorem A7r:AX.size 25=3:=nr rfl
theorem AMA:AX.ty 26= .func:=nr rfl
theorem AMB:AX.ty 28= .func:=nr rfl
theorem A7s:AX.ty 29= .slice 100:=nr rfl
theorem A7t:AX.known 29=true:=nr rfl
theorem A7u:AX.isStruct 29=false:=nr rfl
theorem A7v:AX.zeros 29=[.own 100 []]:=nr rfl
theorem A7w:AX.zero1 29= .own 100 []:=nr rfl
theorem A7x:AX.size 29=1:=nr rfl
theorem AMC:AX.ty 30= .struct [29,23,23]:=nr rfl
theorem A7y:AX.ty 31= .struct [29,23,23]:=nr rfl
theorem A7z:AX.known 31=true:=nr rfl
theorem A80:AX.isStruct 31=true:=nr rfl
theorem A81:AX.zeros 31=[.own 100 [], .own 3 [], .own 3 []]:=nr rfl
theorem A82:AX.nest 31=none:=nr rfl
theorem A83:AX.size 31=3:=nr rfl
theorem AMD:AX.ty 32= .func:=nr rfl
theorem AME:AX.ty 33= .func:=nr rfl
theorem AMF:AX.ty 34= .func:=nr rfl
theorem AMG:AX.ty 35= .func:=nr rfl
theorem AMH:AX.ty 36= .func:=nr rfl
theorem AMI:AX.ty 38= .func:=nr rfl
theorem AMJ:AX.ty 39= .func:=nr rfl
theorem AMK:AX.ty 40= .func:=nr rfl
theorem AML:AX.ty 41= .func:=nr rfl
theorem AMM:AX.ty 42= .func:=nr rfl
theorem AMN:AX.ty 43= .func:=nr rfl
theorem A84:AX.ty 44= .slice 23:=nr rfl
theorem A85:AX.known 44=true:=nr rfl
theorem A86:AX.isStruct 44=false:=nr rfl
theorem A87:AX.zeros 44=[.own 23 []]:=nr rfl
theorem A88:AX.zero1 44= .own 23 []:=nr rfl
theorem A89:AX.size 44=1:=nr rfl
theorem AMO:AX.ty 45= .struct [3,3,44,44]:=nr rfl
theorem A8A:AX.ty 46= .struct [3,3,44,44]:=nr rfl
theorem A8B:AX.known 46=true:=nr rfl
theorem A8C:AX.isStruct 46=true:=nr rfl
theorem A8D:AX.zeros 46=[.int .i64 0, .int .i64 0, .own 23 [], .own 23 []]:=nr rfl
theorem A8E:AX.nest 46=none:=nr rfl
theorem A8F:AX.size 46=4:=nr rfl
theorem AMP:AX.ty 47= .func:=nr rfl
theorem AMQ:AX.ty 49= .func:=nr rfl
theorem A8G:AX.ty 50= .struct [3,3,44,44]:=nr rfl
theorem A8H:AX.known 50=true:=nr rfl
theorem A8I:AX.isStruct 50=true:=nr rfl
theorem A8J:AX.zeros 50=[.int .i64 0, .int .i64 0, .own 23 [], .own 23 []]:=nr rfl
theorem A8K:AX.nest 50=none:=nr rfl
theorem A8L:AX.size 50=4:=nr rfl
theorem AMR:AX.ty 51= .func:=nr rfl
theorem AMS:AX.ty 52= .func:=nr rfl
theorem AMT:AX.ty 53= .func:=nr rfl
theorem AMU:AX.ty 54= .func:=nr rfl
theorem AMV:AX.ty 56= .func:=nr rfl
theorem AMW:AX.ty 57= .func:=nr rfl
theorem AMX:AX.ty 58= .func:=nr rfl
theorem AMY:AX.ty 59= .func:=nr rfl
theorem AMZ:AX.ty 60= .func:=nr rfl
theorem AMa:AX.ty 61= .func:=nr rfl
theorem AMb:AX.ty 62= .func:=nr rfl
theorem AMc:AX.ty 63= .func:=nr rfl
theorem AMd:AX.ty 64= .func:=nr rfl
theorem AMe:AX.ty 65= .func:=nr rfl
theorem AMf:AX.ty 66= .func:=nr rfl
theorem AMg:AX.ty 67= .func:=nr rfl
theorem AMh:AX.ty 68= .func:=nr rfl
theorem AMi:AX.ty 69= .func:=nr rfl
theorem AMj:AX.ty 70= .func:=nr rfl
theorem AMk:AX.ty 72= .func:=nr rfl
theorem AMl:AX.ty 73= .func:=nr rfl
theorem AMm:AX.ty 74= .func:=nr rfl
theorem A8M:AX.ty 75= .slice 78:=nr rfl
theorem A8N:AX.known 75=true:=nr rfl
theorem A8O:AX.isStruct 75=false:=nr rfl
theorem A8P:AX.zeros 75=[.own 78 []]:=nr rfl
theorem A8Q:AX.zero1 75= .own 78 []:=nr rfl
theorem A8R:AX.size 75=1:=nr rfl
theorem AMn:AX.ty 76= .func:=nr rfl
theorem AMo:AX.ty 77= .struct [3,3,3,3]:=nr rfl
theorem A8S:AX.ty 78= .struct [3,3,3,3]:=nr rfl
theorem A8T:AX.known 78=true:=nr rfl
theorem A8U:AX.isStruct 78=true:=nr rfl
theorem A8V:AX.zeros 78=[.int .i64 0, .int .i64 0, .int .i64 0, .int .i64 0]:=nr rfl
theorem A8W:AX.nest 78=none:=nr rfl
theorem A8X:AX.size 78=4:=nr rfl
theorem AMp:AX.ty 80= .func:=nr rfl
theorem AMq:AX.ty 81= .func:=nr rfl
theorem AMr:AX.ty 82= .func:=nr rfl
theorem AMs:AX.ty 83= .struct [3,3,44,44,3,3,44,44]:=nr rfl
theorem A8Y:AX.ty 84= .struct [3,3,44,44,3,3,44,44]:=nr rfl
theorem A8Z:AX.known 84=true:=nr rfl
theorem A8a:AX.isStruct 84=true:=nr rfl
theorem A8b:AX.zeros 84=[.int .i64 0, .int .i64 0, .own 23 [], .own 23 [], .int .i64 0, .int .i64 0, .own 23 [], .own 23 []]:=nr rfl
theorem A8c:AX.nest 84=some [(0,50),(4,50)]:=nr rfl
theorem lm:AX.foff 84 0=some 0:=nr rfl
theorem lq:AX.foff 84 1=some 4:=nr rfl
theorem A8d:AX.size 84=8:=nr rfl
theorem AMt:AX.ty 85= .func:=nr rfl
theorem AMu:AX.ty 86= .func:=nr rfl
theorem A8e:AX.ty 87= .ptr:=nr rfl
theorem A8f:AX.known 87=true:=nr rfl
theorem A8g:AX.isStruct 87=false:=nr rfl
theorem A8h:AX.zeros 87=[.konst (.pointer none)]:=nr rfl
theorem A8i:AX.zero1 87= .konst (.pointer none):=nr rfl
theorem A8j:AX.size 87=1:=nr rfl
theorem AMv:AX.ty 88= .struct [3,3,44,44,3,3,44,44,23]:=nr rfl
theorem A8k:AX.ty 89= .struct [3,3,44,44,3,3,44,44,23]:=nr rfl
theorem A8l:AX.known 89=true:=nr rfl
theorem A8m:AX.isStruct 89=true:=nr rfl
theorem A8n:AX.zeros 89=[.int .i64 0, .int .i64 0, .own 23 [], .own 23 [], .int .i64 0, .int .i64 0, .own 23 [], .own 23 [], .own 3 []]:=nr rfl
theorem A8o:AX.nest 89=some [(0,50),(4,50),(8,23)]:=nr rfl
theorem lu:AX.foff 89 0=some 0:=nr rfl
theorem lw:AX.foff 89 1=some 4:=nr rfl
theorem mD:AX.foff 89 2=some 8:=nr rfl
theorem A8p:AX.size 89=9:=nr rfl
theorem AMw:AX.ty 90= .func:=nr rfl
theorem AMx:AX.ty 91= .func:=nr rfl
theorem AMy:AX.ty 92= .func:=nr rfl
theorem AMz:AX.ty 93= .func:=nr rfl
theorem AN0:AX.ty 94= .func:=nr rfl
theorem AN1:AX.ty 95= .func:=nr rfl
theorem AN2:AX.ty 96= .func:=nr rfl
theorem A1e:AX.ty 97= .slice 141:=nr rfl
theorem A8q:AX.known 97=true:=nr rfl
theorem A8r:AX.isStruct 97=false:=nr rfl
theorem A8s:AX.zeros 97=[.own 141 []]:=nr rfl
theorem A8t:AX.zero1 97= .own 141 []:=nr rfl
theorem A8u:AX.size 97=1:=nr rfl
theorem AN3:AX.ty 98= .func:=nr rfl
theorem AN4:AX.ty 99= .func:=nr rfl
theorem sN:AX.ty 100= .slice 102:=nr rfl
theorem sO:AX.known 100=true:=nr rfl
theorem sP:AX.isStruct 100=false:=nr rfl
theorem sQ:AX.zeros 100=[.own 102 []]:=nr rfl
theorem sU:AX.zero1 100= .own 102 []:=nr rfl
theorem sV:AX.size 100=1:=nr rfl
theorem AIV:AX.ty 101= .struct [3,3]:=nr rfl
theorem sW:AX.ty 102= .struct [3,3]:=nr rfl
theorem sZ:AX.known 102=true:=nr rfl
theorem su:AX.isStruct 102=true:=nr rfl
theorem sw:AX.zeros 102=[.int .i64 0, .int .i64 0]:=nr rfl
theorem tC:AX.nest 102=none:=nr rfl
theorem tF:AX.size 102=2:=nr rfl
theorem AIW:AX.ty 103= .func:=nr rfl
theorem AIX:AX.ty 104= .func:=nr rfl
theorem tH:AX.ty 105= .func:=nr rfl
theorem tJ:AX.known 105=true:=nr rfl
theorem tK:AX.isStruct 105=false:=nr rfl
theorem tL:AX.zeros 105=[.konst .nilFunc]:=nr rfl
theorem tN:AX.zero1 105= .konst .nilFunc:=nr rfl
theorem tO:AX.size 105=1:=nr rfl
theorem AIY:AX.ty 106= .func:=nr rfl
theorem AIZ:AX.ty 107= .func:=nr rfl
theorem tQ:AX.ty 108= .func:=nr rfl
theorem tT:AX.known 108=true:=nr rfl
theorem tV:AX.isStruct 108=false:=nr rfl
theorem tX:AX.zeros 108=[.konst .nilFunc]:=nr rfl
theorem tY:AX.zero1 108= .konst .nilFunc:=nr rfl
theorem tZ:AX.size 108=1:=nr rfl
theorem AIa:AX.ty 109= .func:=nr rfl
theorem AIb:AX.ty 110= .func:=nr rfl
theorem tq:AX.ty 111= .slice 113:=nr rfl
theorem tu:AX.known 111=true:=nr rfl
theorem u6:AX.isStruct 111=false:=nr rfl
theorem u7:AX.zeros 111=[.own 113 []]:=nr rfl
theorem uA:AX.zero1 111= .own 113 []:=nr rfl
theorem uB:AX.size 111=1:=nr rfl
theorem AIc:AX.ty 112= .func:=nr rfl
theorem uC:AX.ty 113= .slice 4:=nr rfl
theorem uD:AX.known 113=true:=nr rfl
theorem uE:AX.isStruct 113=false:=nr rfl
theorem uF:AX.zeros 113=[.own 4 []]:=nr rfl
theorem uG:AX.zero1 113= .own 4 []:=nr rfl
theorem uH:AX.size 113=1:=nr rfl
theorem AId:AX.ty 114= .func:=nr rfl
theorem uI:AX.ty 115= .func:=nr rfl
theorem uJ:AX.known 115=true:=nr rfl
theorem uK:AX.isStruct 115=false:=nr rfl
theorem uL:AX.zeros 115=[.konst .nilFunc]:=nr rfl
theorem uM:AX.zero1 115= .konst .nilFunc:=nr rfl
theorem uN:AX.size 115=1:=nr rfl
theorem AIe:AX.ty 116= .func:=nr rfl
theorem AIf:AX.ty 117= .func:=nr rfl
theorem AIg:AX.ty 118= .func:=nr rfl
theorem AIh:AX.ty 119= .func:=nr rfl
theorem AIi:AX.ty 120= .func:=nr rfl
theorem uO:AX.ty 121= .func:=nr rfl
theorem uP:AX.known 121=true:=nr rfl
theorem uQ:AX.isStruct 121=false:=nr rfl
theorem uR:AX.zeros 121=[.konst .nilFunc]:=nr rfl
theorem uS:AX.zero1 121= .konst .nilFunc:=nr rfl
theorem uT:AX.size 121=1:=nr rfl
theorem AIj:AX.ty 122= .func:=nr rfl
theorem AIk:AX.ty 123= .func:=nr rfl
theorem uU:AX.ty 124= .func:=nr rfl
theorem uV:AX.known 124=true:=nr rfl
theorem uW:AX.isStruct 124=false:=nr rfl
theorem uX:AX.zeros 124=[.konst .nilFunc]:=nr rfl
theorem uY:AX.zero1 124= .konst .nilFunc:=nr rfl
theorem uZ:AX.size 124=1:=nr rfl
theorem AIl:AX.ty 125= .func:=nr rfl
theorem AIm:AX.ty 126= .func:=nr rfl
theorem AIn:AX.ty 127= .func:=nr rfl
theorem AIo:AX.ty 128= .func:=nr rfl
theorem uf:AX.ty 129= .int .u64:=nr rfl
theorem ug:AX.known 129=true:=nr rfl
theorem uh:AX.isStruct 129=false:=nr rfl
theorem uj:AX.zeros 129=[.int .u64 0]:=nr rfl
theorem uk:AX.zero1 129= .int .u64 0:=nr rfl
theorem ul:AX.size 129=1:=nr rfl
theorem AIp:AX.ty 130= .func:=nr rfl
theorem AIq:AX.ty 131= .func:=nr rfl
theorem AIr:AX.ty 132= .func:=nr rfl
theorem AIs:AX.ty 133= .func:=nr rfl
theorem um:AX.ty 134= .slice 44:=nr rfl
theorem uo:AX.known 134=true:=nr rfl
theorem uq:AX.isStruct 134=false:=nr rfl
theorem ut:AX.zeros 134=[.own 44 []]:=nr rfl
theorem uu:AX.zero1 134= .own 44 []:=nr rfl
theorem uw:AX.size 134=1:=nr rfl
theorem AIt:AX.ty 136= .func:=nr rfl
theorem AIu:AX.ty 137= .func:=nr rfl
theorem AIv:AX.ty 138= .func:=nr rfl
theorem AIw:AX.ty 139= .func:=nr rfl
theorem AIx:AX.ty 140= .func:=nr rfl
theorem mE:AX.ty 141= .struct [3,3]:=nr rfl
theorem uy:AX.known 141=true:=nr rfl
theorem uz:AX.isStruct 141=true:=nr rfl
theorem vB:AX.zeros 141=[.int .i64 0, .int .i64 0]:=nr rfl
theorem vC:AX.nest 141=none:=nr rfl
theorem vD:AX.size 141=2:=nr rfl
theorem AIy:AX.ty 142= .func:=nr rfl
theorem AIz:AX.ty 143= .func:=nr rfl
theorem AJ0:AX.ty 144= .func:=nr rfl
theorem AJ1:AX.ty 145= .func:=nr rfl
theorem vE:AX.ty 146= .map 102 102:=nr rfl
theorem AJ2:AX.ty 147= .func:=nr rfl
theorem AJ3:AX.ty 148= .func:=nr rfl
theorem AJ4:AX.ty 149= .func:=nr rfl
theorem vF:AX.ty 150= .func:=nr rfl
theorem vG:AX.known 150=true:=nr rfl
theorem vH:AX.isStruct 150=false:=nr rfl
theorem vI:AX.zeros 150=[.konst .nilFunc]:=nr rfl
theorem vJ:AX.zero1 150= .konst .nilFunc:=nr rfl
theorem vK:AX.size 150=1:=nr rfl
theorem AJ5:AX.ty 151= .func:=nr rfl
theorem AJ6:AX.ty 152= .func:=nr rfl
theorem AJ7:AX.ty 153= .func:=nr rfl
theorem AJ8:AX.ty 154= .func:=nr rfl
theorem AJ9:AX.ty 155= .func:=nr rfl
theorem AJA:AX.ty 156= .func:=nr rfl
theorem vL:AX.ty 157= .int .u32:=nr rfl
theorem vM:AX.known 157=true:=nr rfl
theorem vN:AX.isStruct 157=false:=nr rfl
theorem vO:AX.zeros 157=[.int .u32 0]:=nr rfl
theorem vP:AX.zero1 157= .int .u32 0:=nr rfl
theorem vQ:AX.size 157=1:=nr rfl
theorem AJB:AX.ty 159= .func:=nr rfl
theorem vR:AX.ty 160= .int .u64:=nr rfl
theorem vS:AX.known 160=true:=nr rfl
theorem vT:AX.isStruct 160=false:=nr rfl
theorem vU:AX.zeros 160=[.int .u64 0]:=nr rfl
theorem vV:AX.zero1 160= .int .u64 0:=nr rfl
theorem vW:AX.size 160=1:=nr rfl
theorem AJC:AX.ty 162= .func:=nr rfl
theorem AJD:AX.ty 163= .func:=nr rfl
theorem AJE:AX.ty 164= .func:=nr rfl
theorem AJF:AX.ty 165= .func:=nr rfl
theorem AJG:AX.ty 166= .func:=nr rfl
theorem AJH:AX.ty 167= .func:=nr rfl
theorem AJI:AX.ty 169= .func:=nr rfl
theorem AJJ:AX.ty 170= .func:=nr rfl
theorem vX:AX.ty 171= .func:=nr rfl
theorem vY:AX.known 171=true:=nr rfl
theorem vZ:AX.isStruct 171=false:=nr rfl
theorem vg:AX.zeros 171=[.konst .nilFunc]:=nr rfl
theorem vk:AX.zero1 171= .konst .nilFunc:=nr rfl
theorem vo:AX.size 171=1:=nr rfl
theorem vz:AX.ty 172= .func:=nr rfl
theorem w9:AX.known 172=true:=nr rfl
theorem wB:AX.isStruct 172=false:=nr rfl
theorem wC:AX.zeros 172=[.konst .nilFunc]:=nr rfl
theorem wD:AX.zero1 172= .konst .nilFunc:=nr rfl
theorem wE:AX.size 172=1:=nr rfl
theorem AJK:AX.ty 173= .func:=nr rfl
theorem AJL:AX.ty 175= .func:=nr rfl
theorem AJM:AX.ty 176= .func:=nr rfl
theorem AJN:AX.ty 177= .func:=nr rfl
theorem wF:AX.ty 178= .int .i64:=nr rfl
theorem wG:AX.known 178=true:=nr rfl
theorem wH:AX.isStruct 178=false:=nr rfl
theorem wI:AX.zeros 178=[.int .i64 0]:=nr rfl
theorem wJ:AX.zero1 178= .int .i64 0:=nr rfl
theorem wK:AX.size 178=1:=nr rfl
theorem AJO:AX.ty 180= .func:=nr rfl
theorem AJP:AX.ty 181= .func:=nr rfl
theorem AJQ:AX.ty 182= .func:=nr rfl
theorem AJR:AX.ty 183= .func:=nr rfl
theorem AJS:AX.ty 184= .func:=nr rfl
theorem AJT:AX.ty 185= .func:=nr rfl
theorem wL:AX.ty 186= .int .u64:=nr rfl
theorem wM:AX.known 186=true:=nr rfl
theorem wN:AX.isStruct 186=false:=nr rfl
theorem wO:AX.zeros 186=[.int .u64 0]:=nr rfl
theorem wP:AX.zero1 186= .int .u64 0:=nr rfl
theorem wQ:AX.size 186=1:=nr rfl
theorem AJU:AX.ty 187= .func:=nr rfl
theorem AJV:AX.ty 188= .func:=nr rfl
theorem AJW:AX.ty 189= .func:=nr rfl
theorem wR:AX.ty 190= .ptr:=nr rfl
theorem wS:AX.known 190=true:=nr rfl
theorem wT:AX.isStruct 190=false:=nr rfl
theorem wU:AX.zeros 190=[.konst (.pointer none)]:=nr rfl
theorem wV:AX.zero1 190= .konst (.pointer none):=nr rfl
theorem wW:AX.size 190=1:=nr rfl
theorem AJX:AX.ty 191= .func:=nr rfl
theorem AJY:AX.ty 192= .func:=nr rfl
theorem AJZ:AX.ty 193= .ptr:=nr rfl
theorem AJa:AX.ty 195= .func:=nr rfl
theorem AJb:AX.ty 196= .func:=nr rfl
theorem AJc:AX.ty 197= .struct [17,17,17,9]:=nr rfl
theorem AJd:AX.ty 198= .struct [17,17,17,9]:=nr rfl
theorem AJe:AX.ty 202= .func:=nr rfl
theorem AJf:AX.ty 203= .int .u8:=nr rfl
theorem AJg:AX.ty 204= .int .u8:=nr rfl
theorem AJh:AX.ty 205= .func:=nr rfl
theorem AJi:AX.ty 206= .ptr:=nr rfl
theorem AJj:AX.ty 207= .int .i32:=nr rfl
theorem AJk:AX.ty 208= .int .i32:=nr rfl
theorem AJl:AX.ty 209= .struct [12,12,157,203,5,5,204,205,206,207,208]:=nr rfl
theorem AJm:AX.ty 210= .struct [12,12,157,203,5,5,204,205,206,207,208]:=nr rfl
theorem le3:lends 3=false:=nr rfl
theorem le4:lends 4=false:=nr rfl
theorem le5:lends 5=false:=nr rfl
theorem le6:lends 6=false:=nr rfl
theorem le7:lends 7=false:=nr rfl
theorem le8:lends 8=false:=nr rfl
theorem le9:lends 9=false:=nr rfl
theorem A8v:lends 10=false:=nr rfl
theorem A8w:lends 11=false:=nr rfl
theorem A8x:lends 12=false:=nr rfl
theorem A8y:lends 13=false:=nr rfl
theorem A8z:lends 14=false:=nr rfl
theorem A90:lends 15=false:=nr rfl
theorem A91:lends 16=false:=nr rfl
theorem A92:lends 17=true:=nr rfl
theorem A93:lends 18=true:=nr rfl
theorem A94:lends 19=false:=nr rfl
theorem A95:lends 20=false:=nr rfl
theorem A96:lends 21=false:=nr rfl
theorem A97:lends 22=false:=nr rfl
theorem A98:lends 23=false:=nr rfl
theorem A99:lends 24=false:=nr rfl
theorem A9A:lends 25=false:=nr rfl
theorem A9B:lends 26=false:=nr rfl
theorem A9C:lends 27=false:=nr rfl
theorem A9D:lends 28=true:=nr rfl
theorem A9E:lends 29=false:=nr rfl
theorem A9F:lends 30=false:=nr rfl
theorem A9G:lends 31=false:=nr rfl
theorem A9H:lends 32=false:=nr rfl
theorem A9I:lends 33=false:=nr rfl
theorem A9J:lends 34=false:=nr rfl
theorem A9K:lends 35=false:=nr rfl
theorem A9L:lends 36=false:=nr rfl
theorem A9M:lends 37=false:=nr rfl
theorem A9N:lends 38=false:=nr rfl
theorem A9O:lends 39=false:=nr rfl
theorem A9P:lends 40=false:=nr rfl
theorem A9Q:lends 41=false:=nr rfl
theorem A9R:lends 42=false:=nr rfl
theorem A9S:lends 43=false:=nr rfl
theorem A9T:lends 44=false:=nr rfl
theorem A9U:lends 45=false:=nr rfl
theorem A9V:lends 46=false:=nr rfl
theorem A9W:lends 47=false:=nr rfl
theorem A9X:lends 48=true:=nr rfl
theorem A9Y:lends 49=false:=nr rfl
theorem A9Z:lends 50=false:=nr rfl
theorem A9a:lends 51=false:=nr rfl
theorem A9b:lends 52=false:=nr rfl
theorem A9c:lends 53=false:=nr rfl
theorem A9d:lends 54=false:=nr rfl
theorem A9e:lends 55=false:=nr rfl
theorem A9f:lends 56=false:=nr rfl
theorem A9g:lends 57=false:=nr rfl
theorem A9h:lends 58=false:=nr rfl
theorem A9i:lends 59=false:=nr rfl
theorem A9j:lends 60=false:=nr rfl
theorem A9k:lends 61=true:=nr rfl
theorem A9l:lends 62=false:=nr rfl
theorem A9m:lends 63=true:=nr rfl
theorem A9n:lends 64=false:=nr rfl
theorem A9o:lends 65=false:=nr rfl
theorem A9p:lends 66=false:=nr rfl
theorem A9q:lends 67=false:=nr rfl
theorem A9r:lends 68=false:=nr rfl
theorem A9s:lends 69=false:=nr rfl
theorem A9t:lends 70=false:=nr rfl
theorem A9u:lends 71=false:=nr rfl
theorem A9v:lends 72=false:=nr rfl
theorem A9w:lends 73=false:=nr rfl
theorem A9x:lends 74=false:=nr rfl
theorem A9y:lends 75=false:=nr rfl
theorem A9z:lends 76=false:=nr rfl
theorem AA0:lends 77=false:=nr rfl
theorem AA1:lends 78=false:=nr rfl
theorem AA2:lends 79=false:=nr rfl
theorem AA3:lends 80=false:=nr rfl
theorem AA4:lends 81=false:=nr rfl
theorem AA5:lends 82=false:=nr rfl
theorem AA6:lends 83=false:=nr rfl
theorem AA7:lends 84=false:=nr rfl
theorem AA8:lends 85=false:=nr rfl
theorem AA9:lends 86=false:=nr rfl
theorem AAA:lends 87=false:=nr rfl
theorem AAB:lends 88=false:=nr rfl
theorem AAC:lends 89=false:=nr rfl
theorem AAD:lends 90=false:=nr rfl
theorem AAE:lends 91=false:=nr rfl
theorem AAF:lends 92=false:=nr rfl
theorem AAG:lends 93=false:=nr rfl
theorem AAH:lends 94=false:=nr rfl
theorem AAI:lends 95=false:=nr rfl
theorem A1f:lends 96=false:=nr rfl
theorem AAJ:lends 97=true:=nr rfl
theorem AAK:lends 98=false:=nr rfl
theorem AAL:lends 99=false:=nr rfl
theorem wX:lends 100=false:=nr rfl
theorem wY:lends 101=false:=nr rfl
theorem wZ:lends 102=false:=nr rfl
theorem wh:lends 103=false:=nr rfl
theorem wm:lends 104=false:=nr rfl
theorem wo:lends 105=false:=nr rfl
theorem wu:lends 106=false:=nr rfl
theorem ww:lends 107=false:=nr rfl
theorem wy:lends 108=false:=nr rfl
theorem wz:lends 109=false:=nr rfl
theorem x8:lends 110=false:=nr rfl
theorem x9:lends 111=false:=nr rfl
theorem xA:lends 112=false:=nr rfl
theorem xB:lends 113=false:=nr rfl
theorem xC:lends 114=false:=nr rfl
theorem xD:lends 115=false:=nr rfl
theorem xE:lends 116=false:=nr rfl
theorem xF:lends 117=false:=nr rfl
theorem xG:lends 118=false:=nr rfl
theorem xH:lends 119=false:=nr rfl
theorem xI:lends 120=false:=nr rfl
theorem xJ:lends 121=false:=nr rfl
theorem xK:lends 122=false:=nr rfl
theorem xL:lends 123=false:=nr rfl
theorem xM:lends 124=false:=nr rfl
theorem xN:lends 125=false:=nr rfl
theorem xO:lends 126=false:=nr rfl
theorem xP:lends 127=true:=nr rfl
theorem xQ:lends 128=false:=nr rfl
theorem xR:lends 129=false:=nr rfl
theorem xS:lends 130=false:=nr rfl
theorem xU:lends 131=false:=nr rfl
theorem mF:lends 132=false:=nr rfl
theorem xV:lends 133=false:=nr rfl
theorem xW:lends 134=false:=nr rfl
theorem xX:lends 135=false:=nr rfl
theorem xY:lends 136=false:=nr rfl
theorem xZ:lends 137=false:=nr rfl
theorem xc:lends 138=false:=nr rfl
theorem xe:lends 139=false:=nr rfl
theorem xf:lends 140=false:=nr rfl
theorem xg:lends 141=false:=nr rfl
theorem xh:lends 142=false:=nr rfl
theorem xk:lends 143=false:=nr rfl
theorem xm:lends 144=false:=nr rfl
theorem xn:lends 145=false:=nr rfl
theorem xq:lends 146=false:=nr rfl
theorem xu:lends 147=false:=nr rfl
theorem xw:lends 148=false:=nr rfl
theorem xx:lends 149=false:=nr rfl
theorem xy:lends 150=false:=nr rfl
theorem xz:lends 151=false:=nr rfl
theorem y5:lends 152=false:=nr rfl
theorem y7:lends 153=false:=nr rfl
theorem y8:lends 154=false:=nr rfl
theorem y9:lends 155=false:=nr rfl
theorem yA:lends 156=false:=nr rfl
theorem yB:lends 157=false:=nr rfl
theorem yC:lends 158=false:=nr rfl
theorem yD:lends 159=false:=nr rfl
theorem yE:lends 160=false:=nr rfl
theorem yF:lends 161=false:=nr rfl
theorem yG:lends 162=false:=nr rfl
theorem yH:lends 163=false:=nr rfl
theorem yI:lends 164=false:=nr rfl
theorem yJ:lends 165=false:=nr rfl
theorem yK:lends 166=false:=nr rfl
theorem yM:lends 167=false:=nr rfl
theorem yN:lends 168=false:=nr rfl
theorem yO:lends 169=false:=nr rfl
theorem yP:lends 170=false:=nr rfl
theorem yQ:lends 171=false:=nr rfl
theorem yR:lends 172=false:=nr rfl
theorem yS:lends 173=false:=nr rfl
theorem yU:lends 174=false:=nr rfl
theorem yV:lends 175=false:=nr rfl
theorem yX:lends 176=false:=nr rfl
theorem yY:lends 177=false:=nr rfl
theorem yZ:lends 178=false:=nr rfl
theorem yc:lends 179=false:=nr rfl
theorem yf:lends 180=false:=nr rfl
theorem yg:lends 181=false:=nr rfl
theorem yh:lends 182=false:=nr rfl
theorem yj:lends 183=false:=nr rfl
theorem yl:lends 184=false:=nr rfl
theorem ym:lends 185=false:=nr rfl
theorem yn:lends 186=false:=nr rfl
theorem yo:lends 187=false:=nr rfl
theorem yt:lends 188=false:=nr rfl
theorem yu:lends 189=false:=nr rfl
theorem yw:lends 190=false:=nr rfl
theorem yx:lends 191=false:=nr rfl
theorem yz:lends 192=false:=nr rfl
theorem z8:lends 193=false:=nr rfl
theorem zA:lends 194=false:=nr rfl
theorem zC:lends 195=false:=nr rfl
theorem zD:lends 196=false:=nr rfl
theorem zF:lends 197=false:=nr rfl
theorem zG:lends 198=false:=nr rfl
theorem zH:lends 199=false:=nr rfl
theorem zI:lends 200=false:=nr rfl
theorem zJ:lends 201=false:=nr rfl
theorem zK:lends 202=false:=nr rfl
theorem zL:lends 203=false:=nr rfl
theorem zM:lends 204=false:=nr rfl
theorem zN:lends 205=false:=nr rfl
theorem zO:lends 206=false:=nr rfl
set_option maxRecDepth 100000 in
theorem ql:Bb Try.prog AX:=A0D (by kernel_rfl)
theorem mixed:Try.prog.follows .mixedOrders=true:=by kernel_rfl
noncomputable def Y0:Dv.Sys:={P:=Try.prog,T:=AX,lends:=lends,base:=fun _ _ _=>none}
theorem AG4:Dv.Sys.Ok Y0:=⟨ql,mixed,fun _ _ _ _ _ h=>by cases h⟩
theorem AG5(T:Tys)(s:St)(t:TypeId):ev T s t (.const .nilFunc)=some (.konst .nilFunc):=nr rfl
theorem AG6(T:Tys)(s:St)(t:TypeId):ev T s t (.const .nilIface)=some (.konst .nilIface):=nr rfl
theorem AG7(T:Tys)(s:St)(t:TypeId):ev T s t (.const (.pointer none))=some (.konst (.pointer none)):=nr rfl
theorem y0T:Y0.T=AX:=nr rfl
theorem y0L:Y0.lends=lends:=nr rfl
set_option maxRecDepth 10000 in
set_option linter.defProp false in
def AAM:=
 And.intro @y0T (
 And.intro @y0L (
 And.intro @ty3 (
 And.intro @ty4 (
 And.intro @ty5 (
 And.intro @A1Z (
 And.intro @A1a (
 And.intro @A1d (
 And.intro @A7s (
 And.intro @A7y (
 And.intro @A84 (
 And.intro @A8A (
 And.intro @A8G (
 And.intro @A8M (
 And.intro @A8S (
 And.intro @A8Y (
 And.intro @A8e (
 And.intro @A8k (
 And.intro @A1e (
 And.intro @sN (
 And.intro @sW (
 And.intro @tH (
 And.intro @tQ (
 And.intro @tq (
 And.intro @uC (
 And.intro @uI (
 And.intro @uO (
 And.intro @uU (
 And.intro @uf (
 And.intro @um (
 And.intro @mE (
 And.intro @vE (
 And.intro @vF (
 And.intro @vL (
 And.intro @vR (
 And.intro @vX (
 And.intro @vz (
 And.intro @wF (
 And.intro @wL (
 And.intro @wR (
 And.intro @kn3 (
 And.intro @st3 (
 And.intro @sz3 (
 And.intro @zr3 (
 And.intro @kn4 (
 And.intro @st4 (
 And.intro @sz4 (
 And.intro @zr4 (
 And.intro @kn5 (
 And.intro @st5 (
 And.intro @sz5 (
 And.intro @zr5 (
 And.intro @A7f (
 And.intro @A7g (
 And.intro @A7j (
 And.intro @A7h (
 And.intro @A1b (
 And.intro @A7k (
 And.intro @A1c (
 And.intro @A7l (
 And.intro @A7n (
 And.intro @A7o (
 And.intro @A7r (
 And.intro @A7p (
 And.intro @A7t (
 And.intro @A7u (
 And.intro @A7x (
 And.intro @A7v (
 And.intro @A7z (
 And.intro @A80 (
 And.intro @A83 (
 And.intro @A81 (
 And.intro @A85 (
 And.intro @A86 (
 And.intro @A89 (
 And.intro @A87 (
 And.intro @A8B (
 And.intro @A8C (
 And.intro @A8F (
 And.intro @A8D (
 And.intro @A8H (
 And.intro @A8I (
 And.intro @A8L (
 And.intro @A8J (
 And.intro @A8N (
 And.intro @A8O (
 And.intro @A8R (
 And.intro @A8P (
 And.intro @A8T (
 And.intro @A8U (
 And.intro @A8X (
 And.intro @A8V (
 And.intro @A8Z (
 And.intro @A8a (
 And.intro @A8d (
 And.intro @A8b (
 And.intro @A8f (
 And.intro @A8g (
 And.intro @A8j (
 And.intro @A8h (
 And.intro @A8l (
 And.intro @A8m (
 And.intro @A8p (
 And.intro @A8n (
 And.intro @A8q (
 And.intro @A8r (
 And.intro @A8u (
 And.intro @A8s (
 And.intro @sO (
 And.intro @sP (
 And.intro @sV (
 And.intro @sQ (
 And.intro @sZ (
 And.intro @su (
 And.intro @tF (
 And.intro @sw (
 And.intro @tJ (
 And.intro @tK (
 And.intro @tO (
 And.intro @tL (
 And.intro @tT (
 And.intro @tV (
 And.intro @tZ (
 And.intro @tX (
 And.intro @tu (
 And.intro @u6 (
 And.intro @uB (
 And.intro @u7 (
 And.intro @uD (
 And.intro @uE (
 And.intro @uH (
 And.intro @uF (
 And.intro @uJ (
 And.intro @uK (
 And.intro @uN (
 And.intro @uL (
 And.intro @uP (
 And.intro @uQ (
 And.intro @uT (
 And.intro @uR (
 And.intro @uV (
 And.intro @uW (
 And.intro @uZ (
 And.intro @uX (
 And.intro @ug (
 And.intro @uh (
 And.intro @ul (
 And.intro @uj (
 And.intro @uo (
 And.intro @uq (
 And.intro @uw (
 And.intro @ut (
 And.intro @uy (
 And.intro @uz (
 And.intro @vD (
 And.intro @vB (
 And.intro @vG (
 And.intro @vH (
 And.intro @vK (
 And.intro @vI (
 And.intro @vM (
 And.intro @vN (
 And.intro @vQ (
 And.intro @vO (
 And.intro @vS (
 And.intro @vT (
 And.intro @vW (
 And.intro @vU (
 And.intro @vY (
 And.intro @vZ (
 And.intro @vo (
 And.intro @vg (
 And.intro @w9 (
 And.intro @wB (
 And.intro @wE (
 And.intro @wC (
 And.intro @wG (
 And.intro @wH (
 And.intro @wK (
 And.intro @wI (
 And.intro @wM (
 And.intro @wN (
 And.intro @wQ (
 And.intro @wO (
 And.intro @wS (
 And.intro @wT (
 And.intro @wW (
 And.intro @wU (
 And.intro @A7q (
 And.intro @A82 (
 And.intro @A8E (
 And.intro @A8K (
 And.intro @A8W (
 And.intro @A8c (
 And.intro @A8o (
 And.intro @tC (
 And.intro @vC (
 And.intro @lm (
 And.intro @lq (
 And.intro @lu (
 And.intro @lw (
 And.intro @mD (
 And.intro @zo3 (
 And.intro @zo4 (
 And.intro @zo5 (
 And.intro @A7i (
 And.intro @A7m (
 And.intro @A7w (
 And.intro @A88 (
 And.intro @A8Q (
 And.intro @A8i (
 And.intro @A8t (
 And.intro @sU (
 And.intro @tN (
 And.intro @tY (
 And.intro @uA (
 And.intro @uG (
 And.intro @uM (
 And.intro @uS (
 And.intro @uY (
 And.intro @uk (
 And.intro @uu (
 And.intro @vJ (
 And.intro @vP (
 And.intro @vV (
 And.intro @vk (
 And.intro @wD (
 And.intro @wJ (
 And.intro @wP (
 And.intro @wV (
 And.intro @le3 (
 And.intro @le4 (
 And.intro @le5 (
 And.intro @le6 (
 And.intro @le7 (
 And.intro @le8 (
 And.intro @le9 (
 And.intro @A8v (
 And.intro @A8w (
 And.intro @A8x (
 And.intro @A8y (
 And.intro @A8z (
 And.intro @A90 (
 And.intro @A91 (
 And.intro @A92 (
 And.intro @A93 (
 And.intro @A94 (
 And.intro @A95 (
 And.intro @A96 (
 And.intro @A97 (
 And.intro @A98 (
 And.intro @A99 (
 And.intro @A9A (
 And.intro @A9B (
 And.intro @A9C (
 And.intro @A9D (
 And.intro @A9E (
 And.intro @A9F (
 And.intro @A9G (
 And.intro @A9H (
 And.intro @A9I (
 And.intro @A9J (
 And.intro @A9K (
 And.intro @A9L (
 And.intro @A9M (
 And.intro @A9N (
 And.intro @A9O (
 And.intro @A9P (
 And.intro @A9Q (
 And.intro @A9R (
 And.intro @A9S (
 And.intro @A9T (
 And.intro @A9U (
 And.intro @A9V (
 And.intro @A9W (
 And.intro @A9X (
 And.intro @A9Y (
 And.intro @A9Z (
 And.intro @A9a (
 And.intro @A9b (
 And.intro @A9c (
 And.intro @A9d (
 And.intro @A9e (
 And.intro @A9f (
 And.intro @A9g (
 And.intro @A9h (
 And.intro @A9i (
 And.intro @A9j (
 And.intro @A9k (
 And.intro @A9l (
 And.intro @A9m (
 And.intro @A9n (
 And.intro @A9o (
 And.intro @A9p (
 And.intro @A9q (
 And.intro @A9r (
 And.intro @A9s (
 And.intro @A9t (
 And.intro @A9u (
 And.intro @A9v (
 And.intro @A9w (
 And.intro @A9x (
 And.intro @A9y (
 And.intro @A9z (
 And.intro @AA0 (
 And.intro @AA1 (
 And.intro @AA2 (
 And.intro @AA3 (
 And.intro @AA4 (
 And.intro @AA5 (
 And.intro @AA6 (
 And.intro @AA7 (
 And.intro @AA8 (
 And.intro @AA9 (
 And.intro @AAA (
 And.intro @AAB (
 And.intro @AAC (
 And.intro @AAD (
 And.intro @AAE (
 And.intro @AAF (
 And.intro @AAG (
 And.intro @AAH (
 And.intro @AAI (
 And.intro @A1f (
 And.intro @AAJ (
 And.intro @AAK (
 And.intro @AAL (
 And.intro @wX (
 And.intro @wY (
 And.intro @wZ (
 And.intro @wh (
 And.intro @wm (
 And.intro @wo (
 And.intro @wu (
 And.intro @ww (
 And.intro @wy (
 And.intro @wz (
 And.intro @x8 (
 And.intro @x9 (
 And.intro @xA (
 And.intro @xB (
 And.intro @xC (
 And.intro @xD (
 And.intro @xE (
 And.intro @xF (
 And.intro @xG (
 And.intro @xH (
 And.intro @xI (
 And.intro @xJ (
 And.intro @xK (
 And.intro @xL (
 And.intro @xM (
 And.intro @xN (
 And.intro @xO (
 And.intro @xP (
 And.intro @xQ (
 And.intro @xR (
 And.intro @xS (
 And.intro @xU (
 And.intro @mF (
 And.intro @xV (
 And.intro @xW (
 And.intro @xX (
 And.intro @xY (
 And.intro @xZ (
 And.intro @xc (
 And.intro @xe (
 And.intro @xf (
 And.intro @xg (
 And.intro @xh (
 And.intro @xk (
 And.intro @xm (
 And.intro @xn (
 And.intro @xq (
 And.intro @xu (
 And.intro @xw (
 And.intro @xx (
 And.intro @xy (
 And.intro @xz (
 And.intro @y5 (
 And.intro @y7 (
 And.intro @y8 (
 And.intro @y9 (
 And.intro @yA (
 And.intro @yB (
 And.intro @yC (
 And.intro @yD (
 And.intro @yE (
 And.intro @yF (
 And.intro @yG (
 And.intro @yH (
 And.intro @yI (
 And.intro @yJ (
 And.intro @yK (
 And.intro @yM (
 And.intro @yN (
 And.intro @yO (
 And.intro @yP (
 And.intro @yQ (
 And.intro @yR (
 And.intro @yS (
 And.intro @yU (
 And.intro @yV (
 And.intro @yX (
 And.intro @yY (
 And.intro @yZ (
 And.intro @yc (
 And.intro @yf (
 And.intro @yg (
 And.intro @yh (
 And.intro @yj (
 And.intro @yl (
 And.intro @ym (
 And.intro @yn (
 And.intro @yo (
 And.intro @yt (
 And.intro @yu (
 And.intro @yw (
 And.intro @yx (
 And.intro @yz (
 And.intro @z8 (
 And.intro @zA (
 And.intro @zC (
 And.intro @zD (
 And.intro @zF (
 And.intro @zG (
 And.intro @zH (
 And.intro @zI (
 And.intro @zJ (
 And.intro @zK (
 And.intro @zL (
 And.intro @zM (
 And.intro @zN (@zO)))))))))))))))))))))))))))))))))))))))))))))))))))))))))))))))))))))))))))))))))))))))))))))))))))))))))))))))))))))))))))))))))))))))))))))))))))))))))))))))))))))))))))))))))))))))))))))))))))))))))))))))))))))))))))))))))))))))))))))))))))))))))))))))))))))))))))))))))))))))))))))))))))))))))))))))))))))))))))))))))))))))))))))))))))))))))))))))))))))))))))))))))))))))))))))))))))))))))))))))))))))))))))))))))))))))))))))))))
def mG:SC:=
 .seq
 (.ops [
 ⟨(some 2),(.assign (.const (.slice none 0 0))),23,none⟩])
 (.seq
 (.seq
 (.ops [
 ⟨(some 3),(.move (.tmp 0)),23,none⟩,
 ⟨(some 4),(.binOp .eql 23 (.tmp 3) (.const (.slice none 0 0)) 23),4,none⟩])
 (.cond (.tmp 4)
 (.seq
 (.ops [
 ⟨(some 2),(.assign (.const (.slice none 0 0))),23,none⟩])
 .ret)
 .skip))
 (.seq
 (.ops [
 ⟨(some 5),(.buildSlice 23 0 #[]),23,none⟩,
 ⟨(some 6),(.move (.tmp 0)),23,none⟩,
 ⟨(some 7),(.call ⟨(.builtin .append), #[(.tmp 5),(.tmp 6)], #[23,23]⟩),23,none⟩,
 ⟨(some 2),(.assign (.tmp 7)),23,none⟩])
 .ret))
theorem eD:Try.f126.body.map (Bh lends)=some mG:=by kernel_rfl
theorem zP:CB Try.f126 1=true:=by kernel_rfl
theorem bq(A:Option Addr)(c:Nat):Y0.call 126 [.konst (.slice A 0 c)] []=some (.own 3 [],[]):=by
 refine AU (Y:=Y0) rfl Try.func126 zP eD ?_
 show Bq Y0.env mG (fin AX 0 [ResultVar.tmp 2] _) _
 unfold mG
 cases A<;>simp only [↓AO,AB,AAM,implies_true,Option.bind_some,Option.map_some,Option.isSome_some,↓reduceIte,Nat.reduceEqDiff,Nat.reduceLT,Nat.reduceLeDiff,Nat.reduceAdd,Nat.reduceMul,Nat.reduceMod,Nat.reduceSub,List.contains_cons,List.contains_nil,Nat.reduceBEq,List.getD_cons_zero,List.getD_cons_succ,List.getD_nil,List.length_cons,List.length_nil,List.size_toArray,List.toList_toArray,List.zip_cons_cons,List.zip_nil_left,List.append_nil,List.nil_append,List.cons_append,List.map_cons,List.map_nil,List.replicate_succ,List.replicate_zero,List.set_cons_zero,List.set_cons_succ,List.set_set,List.all_cons,List.any_cons,List.any_nil,List.all_nil,List.getElem?_cons_zero,List.getElem?_cons_succ,List.getElem?_nil,List.range_zero,beq_self_eq_true,Int.reduceLE,Int.reduceLT,Int.reduceEq,Int.reduceSub,Int.reduceAdd,Int.reduceToNat,Int.reduceNeg,Option.isNone_none,Option.isNone_some]
theorem qm:Dv.Good Try.prog AX 126 [.sl 3 []] [] (.own 3 []) []:=bG kn3 (fun A c=>Dv.Sys.call_good AG4 (bq A c))
def mH(f:FuncId)(a l:List D):Option (D×List D):=
 match f,a,l with
 | 126,[.sl 3 []],[]=>some (.own 3 [],[])
 | _,_,_=>none
theorem qo: ∀f a l r outs,mH f a l=some (r,outs)→Dv.Good Try.prog AX f a l r outs:=by
 intro f a l r outs h
 unfold mH at h
 split at h
 ·simp only [Option.some.injEq,Prod.mk.injEq]at h;obtain⟨rfl,rfl⟩:=h;exact qm
 ·cases h
theorem mI: ∀zs:List Int,zs.length<4611686018427387904→Dv.Good Try.prog AX 127 [.vw [100000] 0 0] [.own 3 (CJ zs)] (.tup []) [.own 3 (CJ (IJ zs))]:=fun zs h=>
 iB ⟨Try.f127,Try.func127,rfl,by decide⟩ sz3 (fun blk off cap zs w h1 h2 h3=>Try.slices_Sort_int blk off cap zs w h1 h2 h3) (fun p cap w=>Try.slices_Sort_int_none p cap w) zs h
theorem bu: ∀zs:List Int,zs.length<1099511627776→Dv.Good Try.prog AX 160 [.clo 178 [.cptr [.sl 3 (CJ zs)]]] [] (.own 3 (CJ (IJ zs))) []:=fun zs h=>
 ZG ⟨Try.f160,Try.func160,rfl,by decide⟩ sz3
  (fun p ad cap w h1 h2=>callsIn_wide.1 (Go.Proofs.sv.sorted_in 5 (Nat.le_refl _) p _ [] (by decide) (by decide) w h1 h2 (.inl ⟨ad,cap,rfl,rfl⟩)))
  (fun p b off cap zs w h0 h1 h2 h3 h4=>callsIn_wide.1 (Go.Proofs.sv.sorted_in 5 (Nat.le_refl _) p _ zs (by have:maxLen=9223372036854775807:=rfl;omega) (by omega) w h1 h2 (.inr ⟨b,off,cap,rfl,h3,h4⟩))) zs h
theorem ZI: ∀n:Nat,n<1099511627776→Dv.Good Try.prog AX 119 [.konst (.slice none 0 0), .int .i64 n] [] (.own 23 []) []:=fun n h=>
 bn (ρ:=Try.laysGrow119_ren) ql Try.laysGrow119 ⟨Try.f119,Try.func119,rfl,by decide⟩ A1b A1c n h
noncomputable def Y:Dv.Sys:={P:=Try.prog,T:=AX,lends:=lends,base:=O8 (NE 119 23) (O8 (O8 mH (NC 127 3)) (KX 160 178 3))}
theorem yOk:Dv.Sys.Ok Y:=⟨ql,mixed,ND (UH ZI) (ND (ND qo (UF mI)) (Qr bu))⟩
theorem mJ:AX.ty 900013= .other:=nr rfl
theorem yT:Y.T=AX:=nr rfl
theorem yL:Y.lends=lends:=nr rfl
set_option maxRecDepth 10000 in
set_option linter.defProp false in
def AQ:=
 And.intro @mJ (
 And.intro @yT (
 And.intro @yL (
 And.intro @AG5 (
 And.intro @AG6 (
 And.intro @AG7 (
 And.intro @ty3 (
 And.intro @ty4 (
 And.intro @ty5 (
 And.intro @A1Z (
 And.intro @A1a (
 And.intro @A1d (
 And.intro @A7s (
 And.intro @A7y (
 And.intro @A84 (
 And.intro @A8A (
 And.intro @A8G (
 And.intro @A8M (
 And.intro @A8S (
 And.intro @A8Y (
 And.intro @A8e (
 And.intro @A8k (
 And.intro @A1e (
 And.intro @sN (
 And.intro @sW (
 And.intro @tH (
 And.intro @tQ (
 And.intro @tq (
 And.intro @uC (
 And.intro @uI (
 And.intro @uO (
 And.intro @uU (
 And.intro @uf (
 And.intro @um (
 And.intro @mE (
 And.intro @vE (
 And.intro @vF (
 And.intro @vL (
 And.intro @vR (
 And.intro @vX (
 And.intro @vz (
 And.intro @wF (
 And.intro @wL (
 And.intro @wR (
 And.intro @kn3 (
 And.intro @st3 (
 And.intro @sz3 (
 And.intro @zr3 (
 And.intro @kn4 (
 And.intro @st4 (
 And.intro @sz4 (
 And.intro @zr4 (
 And.intro @kn5 (
 And.intro @st5 (
 And.intro @sz5 (
 And.intro @zr5 (
 And.intro @A7f (
 And.intro @A7g (
 And.intro @A7j (
 And.intro @A7h (
 And.intro @A1b (
 And.intro @A7k (
 And.intro @A1c (
 And.intro @A7l (
 And.intro @A7n (
 And.intro @A7o (
 And.intro @A7r (
 And.intro @A7p (
 And.intro @A7t (
 And.intro @A7u (
 And.intro @A7x (
 And.intro @A7v (
 And.intro @A7z (
 And.intro @A80 (
 And.intro @A83 (
 And.intro @A81 (
 And.intro @A85 (
 And.intro @A86 (
 And.intro @A89 (
 And.intro @A87 (
 And.intro @A8B (
 And.intro @A8C (
 And.intro @A8F (
 And.intro @A8D (
 And.intro @A8H (
 And.intro @A8I (
 And.intro @A8L (
 And.intro @A8J (
 And.intro @A8N (
 And.intro @A8O (
 And.intro @A8R (
 And.intro @A8P (
 And.intro @A8T (
 And.intro @A8U (
 And.intro @A8X (
 And.intro @A8V (
 And.intro @A8Z (
 And.intro @A8a (
 And.intro @A8d (
 And.intro @A8b (
 And.intro @A8f (
 And.intro @A8g (
 And.intro @A8j (
 And.intro @A8h (
 And.intro @A8l (
 And.intro @A8m (
 And.intro @A8p (
 And.intro @A8n (
 And.intro @A8q (
 And.intro @A8r (
 And.intro @A8u (
 And.intro @A8s (
 And.intro @sO (
 And.intro @sP (
 And.intro @sV (
 And.intro @sQ (
 And.intro @sZ (
 And.intro @su (
 And.intro @tF (
 And.intro @sw (
 And.intro @tJ (
 And.intro @tK (
 And.intro @tO (
 And.intro @tL (
 And.intro @tT (
 And.intro @tV (
 And.intro @tZ (
 And.intro @tX (
 And.intro @tu (
 And.intro @u6 (
 And.intro @uB (
 And.intro @u7 (
 And.intro @uD (
 And.intro @uE (
 And.intro @uH (
 And.intro @uF (
 And.intro @uJ (
 And.intro @uK (
 And.intro @uN (
 And.intro @uL (
 And.intro @uP (
 And.intro @uQ (
 And.intro @uT (
 And.intro @uR (
 And.intro @uV (
 And.intro @uW (
 And.intro @uZ (
 And.intro @uX (
 And.intro @ug (
 And.intro @uh (
 And.intro @ul (
 And.intro @uj (
 And.intro @uo (
 And.intro @uq (
 And.intro @uw (
 And.intro @ut (
 And.intro @uy (
 And.intro @uz (
 And.intro @vD (
 And.intro @vB (
 And.intro @vG (
 And.intro @vH (
 And.intro @vK (
 And.intro @vI (
 And.intro @vM (
 And.intro @vN (
 And.intro @vQ (
 And.intro @vO (
 And.intro @vS (
 And.intro @vT (
 And.intro @vW (
 And.intro @vU (
 And.intro @vY (
 And.intro @vZ (
 And.intro @vo (
 And.intro @vg (
 And.intro @w9 (
 And.intro @wB (
 And.intro @wE (
 And.intro @wC (
 And.intro @wG (
 And.intro @wH (
 And.intro @wK (
 And.intro @wI (
 And.intro @wM (
 And.intro @wN (
 And.intro @wQ (
 And.intro @wO (
 And.intro @wS (
 And.intro @wT (
 And.intro @wW (
 And.intro @wU (
 And.intro @A7q (
 And.intro @A82 (
 And.intro @A8E (
 And.intro @A8K (
 And.intro @A8W (
 And.intro @A8c (
 And.intro @A8o (
 And.intro @tC (
 And.intro @vC (
 And.intro @lm (
 And.intro @lq (
 And.intro @lu (
 And.intro @lw (
 And.intro @mD (
 And.intro @zo3 (
 And.intro @zo4 (
 And.intro @zo5 (
 And.intro @A7i (
 And.intro @A7m (
 And.intro @A7w (
 And.intro @A88 (
 And.intro @A8Q (
 And.intro @A8i (
 And.intro @A8t (
 And.intro @sU (
 And.intro @tN (
 And.intro @tY (
 And.intro @uA (
 And.intro @uG (
 And.intro @uM (
 And.intro @uS (
 And.intro @uY (
 And.intro @uk (
 And.intro @uu (
 And.intro @vJ (
 And.intro @vP (
 And.intro @vV (
 And.intro @vk (
 And.intro @wD (
 And.intro @wJ (
 And.intro @wP (
 And.intro @wV (
 And.intro @le3 (
 And.intro @le4 (
 And.intro @le5 (
 And.intro @le6 (
 And.intro @le7 (
 And.intro @le8 (
 And.intro @le9 (
 And.intro @A8v (
 And.intro @A8w (
 And.intro @A8x (
 And.intro @A8y (
 And.intro @A8z (
 And.intro @A90 (
 And.intro @A91 (
 And.intro @A92 (
 And.intro @A93 (
 And.intro @A94 (
 And.intro @A95 (
 And.intro @A96 (
 And.intro @A97 (
 And.intro @A98 (
 And.intro @A99 (
 And.intro @A9A (
 And.intro @A9B (
 And.intro @A9C (
 And.intro @A9D (
 And.intro @A9E (
 And.intro @A9F (
 And.intro @A9G (
 And.intro @A9H (
 And.intro @A9I (
 And.intro @A9J (
 And.intro @A9K (
 And.intro @A9L (
 And.intro @A9M (
 And.intro @A9N (
 And.intro @A9O (
 And.intro @A9P (
 And.intro @A9Q (
 And.intro @A9R (
 And.intro @A9S (
 And.intro @A9T (
 And.intro @A9U (
 And.intro @A9V (
 And.intro @A9W (
 And.intro @A9X (
 And.intro @A9Y (
 And.intro @A9Z (
 And.intro @A9a (
 And.intro @A9b (
 And.intro @A9c (
 And.intro @A9d (
 And.intro @A9e (
 And.intro @A9f (
 And.intro @A9g (
 And.intro @A9h (
 And.intro @A9i (
 And.intro @A9j (
 And.intro @A9k (
 And.intro @A9l (
 And.intro @A9m (
 And.intro @A9n (
 And.intro @A9o (
 And.intro @A9p (
 And.intro @A9q (
 And.intro @A9r (
 And.intro @A9s (
 And.intro @A9t (
 And.intro @A9u (
 And.intro @A9v (
 And.intro @A9w (
 And.intro @A9x (
 And.intro @A9y (
 And.intro @A9z (
 And.intro @AA0 (
 And.intro @AA1 (
 And.intro @AA2 (
 And.intro @AA3 (
 And.intro @AA4 (
 And.intro @AA5 (
 And.intro @AA6 (
 And.intro @AA7 (
 And.intro @AA8 (
 And.intro @AA9 (
 And.intro @AAA (
 And.intro @AAB (
 And.intro @AAC (
 And.intro @AAD (
 And.intro @AAE (
 And.intro @AAF (
 And.intro @AAG (
 And.intro @AAH (
 And.intro @AAI (
 And.intro @A1f (
 And.intro @AAJ (
 And.intro @AAK (
 And.intro @AAL (
 And.intro @wX (
 And.intro @wY (
 And.intro @wZ (
 And.intro @wh (
 And.intro @wm (
 And.intro @wo (
 And.intro @wu (
 And.intro @ww (
 And.intro @wy (
 And.intro @wz (
 And.intro @x8 (
 And.intro @x9 (
 And.intro @xA (
 And.intro @xB (
 And.intro @xC (
 And.intro @xD (
 And.intro @xE (
 And.intro @xF (
 And.intro @xG (
 And.intro @xH (
 And.intro @xI (
 And.intro @xJ (
 And.intro @xK (
 And.intro @xL (
 And.intro @xM (
 And.intro @xN (
 And.intro @xO (
 And.intro @xP (
 And.intro @xQ (
 And.intro @xR (
 And.intro @xS (
 And.intro @xU (
 And.intro @mF (
 And.intro @xV (
 And.intro @xW (
 And.intro @xX (
 And.intro @xY (
 And.intro @xZ (
 And.intro @xc (
 And.intro @xe (
 And.intro @xf (
 And.intro @xg (
 And.intro @xh (
 And.intro @xk (
 And.intro @xm (
 And.intro @xn (
 And.intro @xq (
 And.intro @xu (
 And.intro @xw (
 And.intro @xx (
 And.intro @xy (
 And.intro @xz (
 And.intro @y5 (
 And.intro @y7 (
 And.intro @y8 (
 And.intro @y9 (
 And.intro @yA (
 And.intro @yB (
 And.intro @yC (
 And.intro @yD (
 And.intro @yE (
 And.intro @yF (
 And.intro @yG (
 And.intro @yH (
 And.intro @yI (
 And.intro @yJ (
 And.intro @yK (
 And.intro @yM (
 And.intro @yN (
 And.intro @yO (
 And.intro @yP (
 And.intro @yQ (
 And.intro @yR (
 And.intro @yS (
 And.intro @yU (
 And.intro @yV (
 And.intro @yX (
 And.intro @yY (
 And.intro @yZ (
 And.intro @yc (
 And.intro @yf (
 And.intro @yg (
 And.intro @yh (
 And.intro @yj (
 And.intro @yl (
 And.intro @ym (
 And.intro @yn (
 And.intro @yo (
 And.intro @yt (
 And.intro @yu (
 And.intro @yw (
 And.intro @yx (
 And.intro @yz (
 And.intro @z8 (
 And.intro @zA (
 And.intro @zC (
 And.intro @zD (
 And.intro @zF (
 And.intro @zG (
 And.intro @zH (
 And.intro @zI (
 And.intro @zJ (
 And.intro @zK (
 And.intro @zL (
 And.intro @zM (
 And.intro @zN (@zO)))))))))))))))))))))))))))))))))))))))))))))))))))))))))))))))))))))))))))))))))))))))))))))))))))))))))))))))))))))))))))))))))))))))))))))))))))))))))))))))))))))))))))))))))))))))))))))))))))))))))))))))))))))))))))))))))))))))))))))))))))))))))))))))))))))))))))))))))))))))))))))))))))))))))))))))))))))))))))))))))))))))))))))))))))))))))))))))))))))))))))))))))))))))))))))))))))))))))))))))))))))))))))))))))))))))))))))))))))))
theorem AAN(n:Int)(h:0≤n∧n<1099511627776):Y.call 119 [.konst (.slice none 0 0), .int .i64 n] []=some (.own 23 [],[]):=Dv.Sys.call_base (QY<|ZH 119 23 n h)
theorem A1g(zs:List Int)(h:zs.length<1099511627776):Y.call 160 [.clo 178 [.cptr [.sl 3 (AP (D.int .i64) zs)]]] []=some (.own 3 (AP (D.int .i64) (IJ zs)),[]):=Dv.Sys.call_base ((UG 160 178 3 zs h))
theorem mK(zs:List Int)(h:zs.length<4611686018427387904):Y.call 127 [.vw [100000] 0 0] [.own 3 (AP (D.int .i64) zs)]=some (.tup [],[.own 3 (AP (D.int .i64) (IJ zs))]):=Dv.Sys.call_base (QY<|(ZF 127 3 zs h))
theorem iE(xs:List D)(h:xs.length<1099511627776)(hs:xs.all BS=true)(ho:AZ xs=false)(hf:(D7 (.own 3 xs)).isSome=true):Y.call 126 [.sl 3 xs] []=some (.own 3 xs,[]):=by
 cases xs with
 | nil=>exact Dv.Sys.call_base rfl
 | cons x xs=>
  refine AU (Y:=Y) rfl Try.func126 zP eD ?_
  show Bq Y.env mG (fin AX 0 [ResultVar.tmp 2] _) _
  unfold mG
  have h0:0+(x::xs).length<1099511627776:=by omega
  simp only [List.length_cons,Nat.zero_add]at h0
  simp only [List.all_cons,dZ]at hs ho
  simp only [↓AO,AB,AQ,implies_true,Option.bind_some,Option.map_some,Option.isSome_some,↓reduceIte,Nat.reduceEqDiff,Nat.reduceLT,Nat.reduceLeDiff,Nat.reduceAdd,Nat.reduceMul,Nat.reduceMod,Nat.reduceSub,List.contains_cons,List.contains_nil,Nat.reduceBEq,List.getD_cons_zero,List.getD_cons_succ,List.getD_nil,List.length_cons,List.length_nil,List.size_toArray,List.toList_toArray,List.zip_cons_cons,List.zip_nil_left,List.append_nil,List.nil_append,List.cons_append,List.map_cons,List.map_nil,List.replicate_succ,List.replicate_zero,List.set_cons_zero,List.set_cons_succ,List.set_set,List.all_cons,List.any_cons,List.any_nil,List.all_nil,List.getElem?_cons_zero,List.getElem?_cons_succ,List.getElem?_nil,List.range_zero,beq_self_eq_true,Int.reduceLE,Int.reduceLT,Int.reduceEq,Int.reduceSub,Int.reduceAdd,Int.reduceToNat,Int.reduceNeg,Nat.zero_add,h0,hs,ho]
  simp only [kW,RL]at hf
  rw [if_pos hf]
end Go.Proofs.Ytipfckompmhljaa
