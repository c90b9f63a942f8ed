/- The types of this seat as data, and the system of its calls. Conditions: none. -/
import Derived.Test.YtipfckompmhljaaGreatRows
import Derived.Test.YtipfckompmhljaaGreatL6
import Derived.Test.YtipfckompmhljaaGreatSv
import Derived.KernelRfl
namespace Go.Proofs.YtipfckompmhljaaGreat
open Go Dv
set_option linter.unusedSimpArgs false
set_option maxRecDepth 100000
def et:List Ty:=[.other, .func, .int .i64, .int .i64, .bool, .int .u8, .int .u8, .struct [2,3,4,6], .struct [2,3,4,6], .string, .string, .string, .int .u64, .struct [9,12], .struct [9,12], .ptr, .ptr, .ptr, .struct [17], .struct [17], .other, .int .i32, .slice 26, .struct [3,3,22,22], .struct [3,3,22,22], .slice 62, .slice 3, .struct [25,26,26], .struct [25,26,26], .func, .func, .other, .func, .struct [3,3,22,22], .func, .slice 52, .struct [35,26,26], .struct [35,26,26], .func, .func, .func, .func, .func, .func, .func, .func, .func, .func, .other, .func, .other, .func, .slice 82, .func, .func, .func, .func, .func, .func, .func, .func, .func, .slice 84, .func, .other, .func, .func, .func, .func, .func, .func, .slice 74, .func, .struct [3,3,3,3], .struct [3,3,3,3], .func, .func, .func, .func, .func, .func, .struct [3,3], .struct [3,3], .func, .struct [3,3], .func, .func, .int .u64, .other, .func, .func, .func, .func, .func, .func, .func, .func, .int .u32, .other, .func, .int .u64, .other, .func, .func, .func, .func, .func, .func, .func, .func, .func, .func, .other, .func, .func, .func, .func, .func, .func, .int .i64, .other, .func, .func, .func, .func, .func, .int .u64, .func, .func, .func, .ptr, .func, .func, .ptr, .other, .func, .func, .struct [17,17,17,9], .struct [17,17,17,9], .other, .other, .other, .func, .int .u8, .int .u8, .func, .ptr, .int .i32, .int .i32, .struct [12,12,97,143,5,5,144,145,146,147,148], .struct [12,12,97,143,5,5,144,145,146,147,148], .func]
def ge:List (TypeId×List (Nat×TypeId)):=[]
def AJ:Tys:=aD et ge
def lends(f:FuncId):Bool:=[13,14,15,31,32,50,76].contains f
theorem ty1:AJ.ty 1= .func:=nr rfl
theorem ty2:AJ.ty 2= .int .i64:=nr rfl
theorem tT:AJ.ty 3= .int .i64:=nr rfl
theorem kn3:AJ.known 3=true:=nr rfl
theorem st3:AJ.isStruct 3=false:=nr rfl
theorem zr3:AJ.zeros 3=[.int .i64 0]:=nr rfl
theorem zo3:AJ.zero1 3= .int .i64 0:=nr rfl
theorem xp:AJ.size 3=1:=nr rfl
theorem ty4:AJ.ty 4= .bool:=nr rfl
theorem kn4:AJ.known 4=true:=nr rfl
theorem st4:AJ.isStruct 4=false:=nr rfl
theorem zr4:AJ.zeros 4=[.bool false]:=nr rfl
theorem zo4:AJ.zero1 4= .bool false:=nr rfl
theorem sz4:AJ.size 4=1:=nr rfl
theorem ty5:AJ.ty 5= .int .u8:=nr rfl
theorem kn5:AJ.known 5=true:=nr rfl
theorem st5:AJ.isStruct 5=false:=nr rfl
theorem zr5:AJ.zeros 5=[.int .u8 0]:=nr rfl
theorem zo5:AJ.zero1 5= .int .u8 0:=nr rfl
theorem sz5:AJ.size 5=1:=nr rfl
theorem ty6:AJ.ty 6= .int .u8:=nr rfl
theorem ty7:AJ.ty 7= .struct [2,3,4,6]:=nr rfl
theorem ty8:AJ.ty 8= .struct [2,3,4,6]:=nr rfl
theorem ty9:AJ.ty 9= .string:=nr rfl
theorem A8d:AJ.ty 10= .string:=nr rfl
theorem A8e:AJ.ty 11= .string:=nr rfl
theorem A8f:AJ.ty 12= .int .u64:=nr rfl
theorem A8g:AJ.ty 13= .struct [9,12]:=nr rfl
theorem A8h:AJ.ty 14= .struct [9,12]:=nr rfl
theorem A8i:AJ.ty 15= .ptr:=nr rfl
theorem A8j:AJ.ty 16= .ptr:=nr rfl
theorem A8k:AJ.ty 17= .ptr:=nr rfl
theorem A8l:AJ.ty 18= .struct [17]:=nr rfl
theorem A8m:AJ.ty 19= .struct [17]:=nr rfl
theorem A8n:AJ.ty 21= .int .i32:=nr rfl
theorem lS:AJ.ty 22= .slice 26:=nr rfl
theorem tU:AJ.known 22=true:=nr rfl
theorem tV:AJ.isStruct 22=false:=nr rfl
theorem tW:AJ.zeros 22=[.own 26 []]:=nr rfl
theorem tX:AJ.zero1 22= .own 26 []:=nr rfl
theorem tY:AJ.size 22=1:=nr rfl
theorem A8o:AJ.ty 23= .struct [3,3,22,22]:=nr rfl
theorem lT:AJ.ty 24= .struct [3,3,22,22]:=nr rfl
theorem tZ:AJ.known 24=true:=nr rfl
theorem ta:AJ.isStruct 24=true:=nr rfl
theorem td:AJ.zeros 24=[.int .i64 0, .int .i64 0, .own 26 [], .own 26 []]:=nr rfl
theorem tg:AJ.nest 24=none:=nr rfl
theorem th:AJ.size 24=4:=nr rfl
theorem lU:AJ.ty 25= .slice 62:=nr rfl
theorem tj:AJ.known 25=true:=nr rfl
theorem tm:AJ.isStruct 25=false:=nr rfl
theorem tn:AJ.zeros 25=[.own 62 []]:=nr rfl
theorem tp:AJ.zero1 25= .own 62 []:=nr rfl
theorem tq:AJ.size 25=1:=nr rfl
theorem gH:AJ.ty 26= .slice 3:=nr rfl
theorem tr:AJ.known 26=true:=nr rfl
theorem tu:AJ.isStruct 26=false:=nr rfl
theorem tw:AJ.zeros 26=[.own 3 []]:=nr rfl
theorem tx:AJ.zero1 26= .own 3 []:=nr rfl
theorem tz:AJ.size 26=1:=nr rfl
theorem A8p:AJ.ty 27= .struct [25,26,26]:=nr rfl
theorem lV:AJ.ty 28= .struct [25,26,26]:=nr rfl
theorem u4:AJ.known 28=true:=nr rfl
theorem u5:AJ.isStruct 28=true:=nr rfl
theorem u6:AJ.zeros 28=[.own 62 [], .own 3 [], .own 3 []]:=nr rfl
theorem u7:AJ.nest 28=none:=nr rfl
theorem u9:AJ.size 28=3:=nr rfl
theorem A8q:AJ.ty 29= .func:=nr rfl
theorem A8r:AJ.ty 30= .func:=nr rfl
theorem A8s:AJ.ty 32= .func:=nr rfl
theorem uA:AJ.ty 33= .struct [3,3,22,22]:=nr rfl
theorem uB:AJ.known 33=true:=nr rfl
theorem uC:AJ.isStruct 33=true:=nr rfl
theorem uD:AJ.zeros 33=[.int .i64 0, .int .i64 0, .own 26 [], .own 26 []]:=nr rfl
theorem uE:AJ.nest 33=none:=nr rfl
theorem uF:AJ.size 33=4:=nr rfl
theorem A8t:AJ.ty 34= .func:=nr rfl
theorem uG:AJ.ty 35= .slice 52:=nr rfl
theorem uH:AJ.known 35=true:=nr rfl
theorem uI:AJ.isStruct 35=false:=nr rfl
theorem uJ:AJ.zeros 35=[.own 52 []]:=nr rfl
theorem uK:AJ.zero1 35= .own 52 []:=nr rfl
theorem uL:AJ.size 35=1:=nr rfl
theorem A8u:AJ.ty 36= .struct [35,26,26]:=nr rfl
theorem uM:AJ.ty 37= .struct [35,26,26]:=nr rfl
theorem uN:AJ.known 37=true:=nr rfl
theorem uO:AJ.isStruct 37=true:=nr rfl
theorem uP:AJ.zeros 37=[.own 52 [], .own 3 [], .own 3 []]:=nr rfl
theorem uQ:AJ.nest 37=none:=nr rfl
theorem uR:AJ.size 37=3:=nr rfl
theorem A8v:AJ.ty 38= .func:=nr rfl
theorem A8w:AJ.ty 39= .func:=nr rfl
theorem A8x:AJ.ty 40= .func:=nr rfl
theorem A8y:AJ.ty 41= .func:=nr rfl
theorem A8z:AJ.ty 42= .func:=nr rfl
theorem A90:AJ.ty 43= .func:=nr rfl
theorem A91:AJ.ty 44= .func:=nr rfl
theorem A92:AJ.ty 45= .func:=nr rfl
theorem A93:AJ.ty 46= .func:=nr rfl
theorem A94:AJ.ty 47= .func:=nr rfl
theorem A95:AJ.ty 49= .func:=nr rfl
theorem A96:AJ.ty 51= .func:=nr rfl
theorem uS:AJ.ty 52= .slice 82:=nr rfl
theorem uT:AJ.known 52=true:=nr rfl
theorem uU:AJ.isStruct 52=false:=nr rfl
theorem uV:AJ.zeros 52=[.own 82 []]:=nr rfl
theorem uW:AJ.zero1 52= .own 82 []:=nr rfl
theorem uX:AJ.size 52=1:=nr rfl
theorem A97:AJ.ty 53= .func:=nr rfl
theorem A98:AJ.ty 54= .func:=nr rfl
theorem A99:AJ.ty 55= .func:=nr rfl
theorem A9A:AJ.ty 56= .func:=nr rfl
theorem A9B:AJ.ty 57= .func:=nr rfl
theorem A9C:AJ.ty 58= .func:=nr rfl
theorem A9D:AJ.ty 59= .func:=nr rfl
theorem A9E:AJ.ty 60= .func:=nr rfl
theorem A9F:AJ.ty 61= .func:=nr rfl
theorem lW:AJ.ty 62= .slice 84:=nr rfl
theorem uY:AJ.known 62=true:=nr rfl
theorem uZ:AJ.isStruct 62=false:=nr rfl
theorem ua:AJ.zeros 62=[.own 84 []]:=nr rfl
theorem ub:AJ.zero1 62= .own 84 []:=nr rfl
theorem uc:AJ.size 62=1:=nr rfl
theorem A9G:AJ.ty 63= .func:=nr rfl
theorem A9H:AJ.ty 65= .func:=nr rfl
theorem A9I:AJ.ty 66= .func:=nr rfl
theorem A9J:AJ.ty 67= .func:=nr rfl
theorem A9K:AJ.ty 68= .func:=nr rfl
theorem A9L:AJ.ty 69= .func:=nr rfl
theorem A9M:AJ.ty 70= .func:=nr rfl
theorem ud:AJ.ty 71= .slice 74:=nr rfl
theorem ue:AJ.known 71=true:=nr rfl
theorem uf:AJ.isStruct 71=false:=nr rfl
theorem ug:AJ.zeros 71=[.own 74 []]:=nr rfl
theorem uh:AJ.zero1 71= .own 74 []:=nr rfl
theorem uj:AJ.size 71=1:=nr rfl
theorem A9N:AJ.ty 72= .func:=nr rfl
theorem A9O:AJ.ty 73= .struct [3,3,3,3]:=nr rfl
theorem uk:AJ.ty 74= .struct [3,3,3,3]:=nr rfl
theorem ul:AJ.known 74=true:=nr rfl
theorem um:AJ.isStruct 74=true:=nr rfl
theorem un:AJ.zeros 74=[.int .i64 0, .int .i64 0, .int .i64 0, .int .i64 0]:=nr rfl
theorem uo:AJ.nest 74=none:=nr rfl
theorem uq:AJ.size 74=4:=nr rfl
theorem A9P:AJ.ty 75= .func:=nr rfl
theorem A9Q:AJ.ty 76= .func:=nr rfl
theorem A9R:AJ.ty 77= .func:=nr rfl
theorem A9S:AJ.ty 78= .func:=nr rfl
theorem A9T:AJ.ty 79= .func:=nr rfl
theorem A9U:AJ.ty 80= .func:=nr rfl
theorem A9V:AJ.ty 81= .struct [3,3]:=nr rfl
theorem ur:AJ.ty 82= .struct [3,3]:=nr rfl
theorem ut:AJ.known 82=true:=nr rfl
theorem uu:AJ.isStruct 82=true:=nr rfl
theorem uv:AJ.zeros 82=[.int .i64 0, .int .i64 0]:=nr rfl
theorem uw:AJ.nest 82=none:=nr rfl
theorem ux:AJ.size 82=2:=nr rfl
theorem A9W:AJ.ty 83= .func:=nr rfl
theorem lX:AJ.ty 84= .struct [3,3]:=nr rfl
theorem uy:AJ.known 84=true:=nr rfl
theorem uz:AJ.isStruct 84=true:=nr rfl
theorem v6:AJ.zeros 84=[.int .i64 0, .int .i64 0]:=nr rfl
theorem v7:AJ.nest 84=none:=nr rfl
theorem v8:AJ.size 84=2:=nr rfl
theorem A9X:AJ.ty 85= .func:=nr rfl
theorem A9Y:AJ.ty 86= .func:=nr rfl
theorem vA:AJ.ty 87= .int .u64:=nr rfl
theorem vB:AJ.known 87=true:=nr rfl
theorem vC:AJ.isStruct 87=false:=nr rfl
theorem vD:AJ.zeros 87=[.int .u64 0]:=nr rfl
theorem vE:AJ.zero1 87= .int .u64 0:=nr rfl
theorem vF:AJ.size 87=1:=nr rfl
theorem A9Z:AJ.ty 89= .func:=nr rfl
theorem A9a:AJ.ty 90= .func:=nr rfl
theorem vG:AJ.ty 91= .func:=nr rfl
theorem vH:AJ.known 91=true:=nr rfl
theorem vI:AJ.isStruct 91=false:=nr rfl
theorem vJ:AJ.zeros 91=[.konst .nilFunc]:=nr rfl
theorem vK:AJ.zero1 91= .konst .nilFunc:=nr rfl
theorem vL:AJ.size 91=1:=nr rfl
theorem A9b:AJ.ty 92= .func:=nr rfl
theorem A9c:AJ.ty 93= .func:=nr rfl
theorem A9d:AJ.ty 94= .func:=nr rfl
theorem A9e:AJ.ty 95= .func:=nr rfl
theorem vM:AJ.ty 96= .func:=nr rfl
theorem vN:AJ.known 96=true:=nr rfl
theorem vO:AJ.isStruct 96=false:=nr rfl
theorem vP:AJ.zeros 96=[.konst .nilFunc]:=nr rfl
theorem vQ:AJ.zero1 96= .konst .nilFunc:=nr rfl
theorem vR:AJ.size 96=1:=nr rfl
theorem vS:AJ.ty 97= .int .u32:=nr rfl
theorem vT:AJ.known 97=true:=nr rfl
theorem vU:AJ.isStruct 97=false:=nr rfl
theorem vV:AJ.zeros 97=[.int .u32 0]:=nr rfl
theorem vW:AJ.zero1 97= .int .u32 0:=nr rfl
theorem vX:AJ.size 97=1:=nr rfl
theorem A9f:AJ.ty 99= .func:=nr rfl
theorem gp:AJ.ty 100= .int .u64:=nr rfl
theorem gq:AJ.known 100=true:=nr rfl
theorem gr:AJ.isStruct 100=false:=nr rfl
theorem gt:AJ.zeros 100=[.int .u64 0]:=nr rfl
theorem gu:AJ.zero1 100= .int .u64 0:=nr rfl
theorem gv:AJ.size 100=1:=nr rfl
theorem A5z:AJ.ty 102= .func:=nr rfl
theorem A60:AJ.ty 103= .func:=nr rfl
theorem A61:AJ.ty 104= .func:=nr rfl
theorem A62:AJ.ty 105= .func:=nr rfl
theorem A63:AJ.ty 106= .func:=nr rfl
theorem A64:AJ.ty 107= .func:=nr rfl
theorem A65:AJ.ty 108= .func:=nr rfl
theorem A66:AJ.ty 109= .func:=nr rfl
theorem A67:AJ.ty 110= .func:=nr rfl
theorem A68:AJ.ty 111= .func:=nr rfl
theorem A69:AJ.ty 113= .func:=nr rfl
theorem A6A:AJ.ty 114= .func:=nr rfl
theorem gw:AJ.ty 115= .func:=nr rfl
theorem gx:AJ.known 115=true:=nr rfl
theorem gy:AJ.isStruct 115=false:=nr rfl
theorem gz:AJ.zeros 115=[.konst .nilFunc]:=nr rfl
theorem hJ:AJ.zero1 115= .konst .nilFunc:=nr rfl
theorem hP:AJ.size 115=1:=nr rfl
theorem hU:AJ.ty 116= .func:=nr rfl
theorem hX:AJ.known 116=true:=nr rfl
theorem hZ:AJ.isStruct 116=false:=nr rfl
theorem i4:AJ.zeros 116=[.konst .nilFunc]:=nr rfl
theorem i5:AJ.zero1 116= .konst .nilFunc:=nr rfl
theorem i6:AJ.size 116=1:=nr rfl
theorem A6B:AJ.ty 117= .func:=nr rfl
theorem A6C:AJ.ty 118= .func:=nr rfl
theorem i7:AJ.ty 119= .int .i64:=nr rfl
theorem i8:AJ.known 119=true:=nr rfl
theorem i9:AJ.isStruct 119=false:=nr rfl
theorem iA:AJ.zeros 119=[.int .i64 0]:=nr rfl
theorem iB:AJ.zero1 119= .int .i64 0:=nr rfl
theorem iC:AJ.size 119=1:=nr rfl
theorem A6D:AJ.ty 121= .func:=nr rfl
theorem A6E:AJ.ty 122= .func:=nr rfl
theorem A6F:AJ.ty 123= .func:=nr rfl
theorem A6G:AJ.ty 124= .func:=nr rfl
theorem A6H:AJ.ty 125= .func:=nr rfl
theorem iD:AJ.ty 126= .int .u64:=nr rfl
theorem iE:AJ.known 126=true:=nr rfl
theorem iF:AJ.isStruct 126=false:=nr rfl
theorem iG:AJ.zeros 126=[.int .u64 0]:=nr rfl
theorem iH:AJ.zero1 126= .int .u64 0:=nr rfl
theorem iI:AJ.size 126=1:=nr rfl
theorem A6I:AJ.ty 127= .func:=nr rfl
theorem A6J:AJ.ty 128= .func:=nr rfl
theorem A6K:AJ.ty 129= .func:=nr rfl
theorem iJ:AJ.ty 130= .ptr:=nr rfl
theorem iK:AJ.known 130=true:=nr rfl
theorem iL:AJ.isStruct 130=false:=nr rfl
theorem iM:AJ.zeros 130=[.konst (.pointer none)]:=nr rfl
theorem iN:AJ.zero1 130= .konst (.pointer none):=nr rfl
theorem iO:AJ.size 130=1:=nr rfl
theorem A6L:AJ.ty 131= .func:=nr rfl
theorem A6M:AJ.ty 132= .func:=nr rfl
theorem A6N:AJ.ty 133= .ptr:=nr rfl
theorem A6O:AJ.ty 135= .func:=nr rfl
theorem A6P:AJ.ty 136= .func:=nr rfl
theorem A6Q:AJ.ty 137= .struct [17,17,17,9]:=nr rfl
theorem A6R:AJ.ty 138= .struct [17,17,17,9]:=nr rfl
theorem A6S:AJ.ty 142= .func:=nr rfl
theorem A6T:AJ.ty 143= .int .u8:=nr rfl
theorem A6U:AJ.ty 144= .int .u8:=nr rfl
theorem A6V:AJ.ty 145= .func:=nr rfl
theorem A6W:AJ.ty 146= .ptr:=nr rfl
theorem A6X:AJ.ty 147= .int .i32:=nr rfl
theorem A6Y:AJ.ty 148= .int .i32:=nr rfl
theorem A6Z:AJ.ty 149= .struct [12,12,97,143,5,5,144,145,146,147,148]:=nr rfl
theorem A6a:AJ.ty 150= .struct [12,12,97,143,5,5,144,145,146,147,148]:=nr rfl
theorem A6b:AJ.ty 151= .func:=nr rfl
theorem le3:lends 3=false:=nr rfl
theorem le4:lends 4=false:=nr rfl
theorem le5:lends 5=false:=nr rfl
theorem le6:lends 6=false:=nr rfl
theorem le7:lends 7=false:=nr rfl
theorem le8:lends 8=false:=nr rfl
theorem le9:lends 9=false:=nr rfl
theorem vY:lends 10=false:=nr rfl
theorem vZ:lends 11=false:=nr rfl
theorem vd:lends 12=false:=nr rfl
theorem ve:lends 13=true:=nr rfl
theorem vf:lends 14=true:=nr rfl
theorem vg:lends 15=true:=nr rfl
theorem vh:lends 16=false:=nr rfl
theorem vi:lends 17=false:=nr rfl
theorem vj:lends 18=false:=nr rfl
theorem vk:lends 19=false:=nr rfl
theorem vl:lends 20=false:=nr rfl
theorem vm:lends 21=false:=nr rfl
theorem vn:lends 22=false:=nr rfl
theorem vo:lends 23=false:=nr rfl
theorem vp:lends 24=false:=nr rfl
theorem vq:lends 25=false:=nr rfl
theorem vr:lends 26=false:=nr rfl
theorem vz:lends 27=false:=nr rfl
theorem w3:lends 28=false:=nr rfl
theorem w4:lends 29=false:=nr rfl
theorem w5:lends 30=false:=nr rfl
theorem w6:lends 31=true:=nr rfl
theorem w7:lends 32=true:=nr rfl
theorem w8:lends 33=false:=nr rfl
theorem w9:lends 34=false:=nr rfl
theorem wA:lends 35=false:=nr rfl
theorem wB:lends 36=false:=nr rfl
theorem wC:lends 37=false:=nr rfl
theorem wD:lends 38=false:=nr rfl
theorem wE:lends 39=false:=nr rfl
theorem wF:lends 40=false:=nr rfl
theorem wG:lends 41=false:=nr rfl
theorem wH:lends 42=false:=nr rfl
theorem wI:lends 43=false:=nr rfl
theorem wJ:lends 44=false:=nr rfl
theorem wK:lends 45=false:=nr rfl
theorem wL:lends 46=false:=nr rfl
theorem wM:lends 47=false:=nr rfl
theorem wN:lends 48=false:=nr rfl
theorem wO:lends 49=false:=nr rfl
theorem wP:lends 50=true:=nr rfl
theorem wQ:lends 51=false:=nr rfl
theorem wR:lends 52=false:=nr rfl
theorem wS:lends 53=false:=nr rfl
theorem wT:lends 54=false:=nr rfl
theorem wU:lends 55=false:=nr rfl
theorem wV:lends 56=false:=nr rfl
theorem wW:lends 57=false:=nr rfl
theorem wX:lends 58=false:=nr rfl
theorem wY:lends 59=false:=nr rfl
theorem wZ:lends 60=false:=nr rfl
theorem wa:lends 61=false:=nr rfl
theorem wb:lends 62=false:=nr rfl
theorem wc:lends 63=false:=nr rfl
theorem wd:lends 64=false:=nr rfl
theorem we:lends 65=false:=nr rfl
theorem wg:lends 66=false:=nr rfl
theorem wh:lends 67=false:=nr rfl
theorem wi:lends 68=false:=nr rfl
theorem wj:lends 69=false:=nr rfl
theorem wk:lends 70=false:=nr rfl
theorem wl:lends 71=false:=nr rfl
theorem wm:lends 72=false:=nr rfl
theorem wo:lends 73=false:=nr rfl
theorem lY:lends 74=false:=nr rfl
theorem wq:lends 75=false:=nr rfl
theorem wt:lends 76=true:=nr rfl
theorem wu:lends 77=false:=nr rfl
theorem wv:lends 78=false:=nr rfl
theorem ww:lends 79=false:=nr rfl
theorem wx:lends 80=false:=nr rfl
theorem wy:lends 81=false:=nr rfl
theorem wz:lends 82=false:=nr rfl
theorem x4:lends 83=false:=nr rfl
theorem x5:lends 84=false:=nr rfl
theorem lZ:lends 85=false:=nr rfl
theorem x6:lends 86=false:=nr rfl
theorem x7:lends 87=false:=nr rfl
theorem x8:lends 88=false:=nr rfl
theorem x9:lends 89=false:=nr rfl
theorem xA:lends 90=false:=nr rfl
theorem xB:lends 91=false:=nr rfl
theorem xC:lends 92=false:=nr rfl
theorem xD:lends 93=false:=nr rfl
theorem xE:lends 94=false:=nr rfl
theorem xF:lends 95=false:=nr rfl
theorem xG:lends 96=false:=nr rfl
theorem xH:lends 97=false:=nr rfl
theorem xI:lends 98=false:=nr rfl
theorem xJ:lends 99=false:=nr rfl
theorem iP:lends 100=false:=nr rfl
theorem iQ:lends 101=false:=nr rfl
theorem iR:lends 102=false:=nr rfl
theorem iS:lends 103=false:=nr rfl
theorem iT:lends 104=false:=nr rfl
theorem iU:lends 105=false:=nr rfl
theorem iV:lends 106=false:=nr rfl
theorem iW:lends 107=false:=nr rfl
theorem iX:lends 108=false:=nr rfl
theorem iY:lends 109=false:=nr rfl
theorem iZ:lends 110=false:=nr rfl
theorem ia:lends 111=false:=nr rfl
theorem ib:lends 112=false:=nr rfl
theorem ic:lends 113=false:=nr rfl
theorem ie:lends 114=false:=nr rfl
theorem ig:lends 115=false:=nr rfl
theorem ii:lends 116=false:=nr rfl
theorem ij:lends 117=false:=nr rfl
theorem ik:lends 118=false:=nr rfl
theorem il:lends 119=false:=nr rfl
theorem im:lends 120=false:=nr rfl
theorem io:lends 121=false:=nr rfl
theorem ip:lends 122=false:=nr rfl
theorem iq:lends 123=false:=nr rfl
theorem ir:lends 124=false:=nr rfl
theorem it:lends 125=false:=nr rfl
theorem iu:lends 126=false:=nr rfl
theorem iv:lends 127=false:=nr rfl
theorem iw:lends 128=false:=nr rfl
theorem ix:lends 129=false:=nr rfl
theorem iy:lends 130=false:=nr rfl
theorem iz:lends 131=false:=nr rfl
theorem j1:lends 132=false:=nr rfl
theorem j3:lends 133=false:=nr rfl
theorem j4:lends 134=false:=nr rfl
theorem j5:lends 135=false:=nr rfl
set_option maxRecDepth 100000 in
theorem la:B7 Tryz.prog AJ:=jo (by kernel_rfl)
theorem mixed:Tryz.prog.follows .mixedOrders=true:=by kernel_rfl
noncomputable def Y0:Dv.Sys:={P:=Tryz.prog,T:=AJ,lends:=lends,base:=fun _ _ _=>none}
theorem A2c:Dv.Sys.Ok Y0:=⟨la,mixed,fun _ _ _ _ _ h=>by cases h⟩
theorem A2d(T:Tys)(s:St)(t:TypeId):ev T s t (.const .nilFunc)=some (.konst .nilFunc):=nr rfl
theorem A2e(T:Tys)(s:St)(t:TypeId):ev T s t (.const .nilIface)=some (.konst .nilIface):=nr rfl
theorem A2f(T:Tys)(s:St)(t:TypeId):ev T s t (.const (.pointer none))=some (.konst (.pointer none)):=nr rfl
theorem y0T:Y0.T=AJ:=nr rfl
theorem y0L:Y0.lends=lends:=nr rfl
set_option maxRecDepth 10000 in
set_option linter.defProp false in
def xK:=
 And.intro @y0T (
 And.intro @y0L (
 And.intro @tT (
 And.intro @ty4 (
 And.intro @ty5 (
 And.intro @lS (
 And.intro @lT (
 And.intro @lU (
 And.intro @gH (
 And.intro @lV (
 And.intro @uA (
 And.intro @uG (
 And.intro @uM (
 And.intro @uS (
 And.intro @lW (
 And.intro @ud (
 And.intro @uk (
 And.intro @ur (
 And.intro @lX (
 And.intro @vA (
 And.intro @vG (
 And.intro @vM (
 And.intro @vS (
 And.intro @gp (
 And.intro @gw (
 And.intro @hU (
 And.intro @i7 (
 And.intro @iD (
 And.intro @iJ (
 And.intro @kn3 (
 And.intro @st3 (
 And.intro @xp (
 And.intro @zr3 (
 And.intro @kn4 (
 And.intro @st4 (
 And.intro @sz4 (
 And.intro @zr4 (
 And.intro @kn5 (
 And.intro @st5 (
 And.intro @sz5 (
 And.intro @zr5 (
 And.intro @tU (
 And.intro @tV (
 And.intro @tY (
 And.intro @tW (
 And.intro @tZ (
 And.intro @ta (
 And.intro @th (
 And.intro @td (
 And.intro @tj (
 And.intro @tm (
 And.intro @tq (
 And.intro @tn (
 And.intro @tr (
 And.intro @tu (
 And.intro @tz (
 And.intro @tw (
 And.intro @u4 (
 And.intro @u5 (
 And.intro @u9 (
 And.intro @u6 (
 And.intro @uB (
 And.intro @uC (
 And.intro @uF (
 And.intro @uD (
 And.intro @uH (
 And.intro @uI (
 And.intro @uL (
 And.intro @uJ (
 And.intro @uN (
 And.intro @uO (
 And.intro @uR (
 And.intro @uP (
 And.intro @uT (
 And.intro @uU (
 And.intro @uX (
 And.intro @uV (
 And.intro @uY (
 And.intro @uZ (
 And.intro @uc (
 And.intro @ua (
 And.intro @ue (
 And.intro @uf (
 And.intro @uj (
 And.intro @ug (
 And.intro @ul (
 And.intro @um (
 And.intro @uq (
 And.intro @un (
 And.intro @ut (
 And.intro @uu (
 And.intro @ux (
 And.intro @uv (
 And.intro @uy (
 And.intro @uz (
 And.intro @v8 (
 And.intro @v6 (
 And.intro @vB (
 And.intro @vC (
 And.intro @vF (
 And.intro @vD (
 And.intro @vH (
 And.intro @vI (
 And.intro @vL (
 And.intro @vJ (
 And.intro @vN (
 And.intro @vO (
 And.intro @vR (
 And.intro @vP (
 And.intro @vT (
 And.intro @vU (
 And.intro @vX (
 And.intro @vV (
 And.intro @gq (
 And.intro @gr (
 And.intro @gv (
 And.intro @gt (
 And.intro @gx (
 And.intro @gy (
 And.intro @hP (
 And.intro @gz (
 And.intro @hX (
 And.intro @hZ (
 And.intro @i6 (
 And.intro @i4 (
 And.intro @i8 (
 And.intro @i9 (
 And.intro @iC (
 And.intro @iA (
 And.intro @iE (
 And.intro @iF (
 And.intro @iI (
 And.intro @iG (
 And.intro @iK (
 And.intro @iL (
 And.intro @iO (
 And.intro @iM (
 And.intro @tg (
 And.intro @u7 (
 And.intro @uE (
 And.intro @uQ (
 And.intro @uo (
 And.intro @uw (
 And.intro @v7 (
 And.intro @zo3 (
 And.intro @zo4 (
 And.intro @zo5 (
 And.intro @tX (
 And.intro @tp (
 And.intro @tx (
 And.intro @uK (
 And.intro @uW (
 And.intro @ub (
 And.intro @uh (
 And.intro @vE (
 And.intro @vK (
 And.intro @vQ (
 And.intro @vW (
 And.intro @gu (
 And.intro @hJ (
 And.intro @i5 (
 And.intro @iB (
 And.intro @iH (
 And.intro @iN (
 And.intro @le3 (
 And.intro @le4 (
 And.intro @le5 (
 And.intro @le6 (
 And.intro @le7 (
 And.intro @le8 (
 And.intro @le9 (
 And.intro @vY (
 And.intro @vZ (
 And.intro @vd (
 And.intro @ve (
 And.intro @vf (
 And.intro @vg (
 And.intro @vh (
 And.intro @vi (
 And.intro @vj (
 And.intro @vk (
 And.intro @vl (
 And.intro @vm (
 And.intro @vn (
 And.intro @vo (
 And.intro @vp (
 And.intro @vq (
 And.intro @vr (
 And.intro @vz (
 And.intro @w3 (
 And.intro @w4 (
 And.intro @w5 (
 And.intro @w6 (
 And.intro @w7 (
 And.intro @w8 (
 And.intro @w9 (
 And.intro @wA (
 And.intro @wB (
 And.intro @wC (
 And.intro @wD (
 And.intro @wE (
 And.intro @wF (
 And.intro @wG (
 And.intro @wH (
 And.intro @wI (
 And.intro @wJ (
 And.intro @wK (
 And.intro @wL (
 And.intro @wM (
 And.intro @wN (
 And.intro @wO (
 And.intro @wP (
 And.intro @wQ (
 And.intro @wR (
 And.intro @wS (
 And.intro @wT (
 And.intro @wU (
 And.intro @wV (
 And.intro @wW (
 And.intro @wX (
 And.intro @wY (
 And.intro @wZ (
 And.intro @wa (
 And.intro @wb (
 And.intro @wc (
 And.intro @wd (
 And.intro @we (
 And.intro @wg (
 And.intro @wh (
 And.intro @wi (
 And.intro @wj (
 And.intro @wk (
 And.intro @wl (
 And.intro @wm (
 And.intro @wo (
 And.intro @lY (
 And.intro @wq (
 And.intro @wt (
 And.intro @wu (
 And.intro @wv (
 And.intro @ww (
 And.intro @wx (
 And.intro @wy (
 And.intro @wz (
 And.intro @x4 (
 And.intro @x5 (
 And.intro @lZ (
 And.intro @x6 (
 And.intro @x7 (
 And.intro @x8 (
 And.intro @x9 (
 And.intro @xA (
 And.intro @xB (
 And.intro @xC (
 And.intro @xD (
 And.intro @xE (
 And.intro @xF (
 And.intro @xG (
 And.intro @xH (
 And.intro @xI (
 And.intro @xJ (
 And.intro @iP (
 And.intro @iQ (
 And.intro @iR (
 And.intro @iS (
 And.intro @iT (
 And.intro @iU (
 And.intro @iV (
 And.intro @iW (
 And.intro @iX (
 And.intro @iY (
 And.intro @iZ (
 And.intro @ia (
 And.intro @ib (
 And.intro @ic (
 And.intro @ie (
 And.intro @ig (
 And.intro @ii (
 And.intro @ij (
 And.intro @ik (
 And.intro @il (
 And.intro @im (
 And.intro @io (
 And.intro @ip (
 And.intro @iq (
 And.intro @ir (
 And.intro @it (
 And.intro @iu (
 And.intro @iv (
 And.intro @iw (
 And.intro @ix (
 And.intro @iy (
 And.intro @iz (
 And.intro @j1 (
 And.intro @j3 (
 And.intro @j4 (@j5))))))))))))))))))))))))))))))))))))))))))))))))))))))))))))))))))))))))))))))))))))))))))))))))))))))))))))))))))))))))))))))))))))))))))))))))))))))))))))))))))))))))))))))))))))))))))))))))))))))))))))))))))))))))))))))))))))))))))))))))))))))))))))))))))))))))))))))))))))))))))))))))))))))))
def xL:SC:=
 .seq
 (.ops [
 ⟨(some 2),(.assign (.const (.slice none 0 0))),26,none⟩])
 (.seq
 (.seq
 (.ops [
 ⟨(some 3),(.move (.tmp 0)),26,none⟩,
 ⟨(some 4),(.binOp .eql 26 (.tmp 3) (.const (.slice none 0 0)) 26),4,none⟩])
 (.cond (.tmp 4)
 (.seq
 (.ops [
 ⟨(some 2),(.assign (.const (.slice none 0 0))),26,none⟩])
 .ret)
 .skip))
 (.seq
 (.ops [
 ⟨(some 5),(.buildSlice 26 0 #[]),26,none⟩,
 ⟨(some 6),(.move (.tmp 0)),26,none⟩,
 ⟨(some 7),(.call ⟨(.builtin .append), #[(.tmp 5),(.tmp 6)], #[26,26]⟩),26,none⟩,
 ⟨(some 2),(.assign (.tmp 7)),26,none⟩])
 .ret))
theorem cm:Tryz.f43.body.map (Am lends)=some xL:=by kernel_rfl
theorem xM:As Tryz.f43 1=true:=by kernel_rfl
theorem aR(A:Option Addr)(c:Nat):Y0.call 43 [.konst (.slice A 0 c)] []=some (.own 3 [],[]):=by
 refine AC (Y:=Y0) rfl Tryz.func43 xM cm ?_
 show Av Y0.env xL (fin AJ 0 [ResultVar.tmp 2] _) _
 unfold xL
 cases A<;>simp only [↓A8,A1,xK,implies_true,Option.bind_some,Option.map_some,Option.isSome_some,↓reduceIte,Nat.reduceEqDiff,Nat.reduceLT,Nat.reduceLeDiff,Nat.reduceAdd,Nat.reduceMul,Nat.reduceMod,Nat.reduceSub,List.contains_cons,List.contains_nil,Nat.reduceBEq,List.getD_cons_zero,List.getD_cons_succ,List.getD_nil,List.length_cons,List.length_nil,List.size_toArray,List.toList_toArray,List.zip_cons_cons,List.zip_nil_left,List.append_nil,List.nil_append,List.cons_append,List.map_cons,List.map_nil,List.replicate_succ,List.replicate_zero,List.set_cons_zero,List.set_cons_succ,List.set_set,List.all_cons,List.any_cons,List.any_nil,List.all_nil,List.getElem?_cons_zero,List.getElem?_cons_succ,List.getElem?_nil,List.range_zero,beq_self_eq_true,Int.reduceLE,Int.reduceLT,Int.reduceEq,Int.reduceSub,Int.reduceAdd,Int.reduceToNat,Int.reduceNeg,Option.isNone_none,Option.isNone_some]
theorem ld:Dv.Good Tryz.prog AJ 43 [.sl 3 []] [] (.own 3 []) []:=Y6 kn3 (fun A c=>Dv.Sys.call_good A2c (aR A c))
def co(f:FuncId)(a l:List D):Option (D×List D):=
 match f,a,l with
 | 43,[.sl 3 []],[]=>some (.own 3 [],[])
 | _,_,_=>none
theorem gI: ∀f a l r outs,co f a l=some (r,outs)→Dv.Good Tryz.prog AJ f a l r outs:=by
 intro f a l r outs h
 unfold co at h
 split at h
 ·simp only [Option.some.injEq,Prod.mk.injEq]at h;obtain⟨rfl,rfl⟩:=h;exact ld
 ·cases h
theorem cq: ∀zs:List Int,zs.length<4611686018427387904→Dv.Good Tryz.prog AJ 76 [.vw [100000] 0 0] [.own 3 (BP zs)] (.tup []) [.own 3 (BP (GA zs))]:=fun zs h=>
 aP ⟨Tryz.f76,Tryz.func76,rfl,by decide⟩ xp (fun blk off cap zs w h1 h2 h3=>Tryz.slices_Sort_int blk off cap zs w h1 h2 h3) (fun p cap w=>Tryz.slices_Sort_int_none p cap w) zs h
theorem YS: ∀zs:List Int,zs.length<1099511627776→Dv.Good Tryz.prog AJ 96 [.clo 110 [.cptr [.sl 3 (BP zs)]]] [] (.own 3 (BP (GA zs))) []:=fun zs h=>
 Wb ⟨Tryz.f96,Tryz.func96,rfl,by decide⟩ xp
  (fun p ad cap w h1 h2=>callsIn_wide.1 (Go.Proofs.sv.sorted_in 5 (Nat.le_refl _) p _ [] (by decide) (by decide) w h1 h2 (.inl ⟨ad,cap,rfl,rfl⟩)))
  (fun p b off cap zs w h0 h1 h2 h3 h4=>callsIn_wide.1 (Go.Proofs.sv.sorted_in 5 (Nat.le_refl _) p _ zs (by have:maxLen=9223372036854775807:=rfl;omega) (by omega) w h1 h2 (.inr ⟨b,off,cap,rfl,h3,h4⟩))) zs h
noncomputable def Y:Dv.Sys:={P:=Tryz.prog,T:=AJ,lends:=lends,base:=Ni (Ni co (Kn 76 3)) (Ja0 96 110 3)}
theorem yOk:Dv.Sys.Ok Y:=⟨la,mixed,OQ (OQ gI (RQ cq)) (Oc YS)⟩
theorem yT:Y.T=AJ:=nr rfl
theorem yL:Y.lends=lends:=nr rfl
set_option maxRecDepth 10000 in
set_option linter.defProp false in
def AA:=
 And.intro @yT (
 And.intro @yL (
 And.intro @A2d (
 And.intro @A2e (
 And.intro @A2f (
 And.intro @tT (
 And.intro @ty4 (
 And.intro @ty5 (
 And.intro @lS (
 And.intro @lT (
 And.intro @lU (
 And.intro @gH (
 And.intro @lV (
 And.intro @uA (
 And.intro @uG (
 And.intro @uM (
 And.intro @uS (
 And.intro @lW (
 And.intro @ud (
 And.intro @uk (
 And.intro @ur (
 And.intro @lX (
 And.intro @vA (
 And.intro @vG (
 And.intro @vM (
 And.intro @vS (
 And.intro @gp (
 And.intro @gw (
 And.intro @hU (
 And.intro @i7 (
 And.intro @iD (
 And.intro @iJ (
 And.intro @kn3 (
 And.intro @st3 (
 And.intro @xp (
 And.intro @zr3 (
 And.intro @kn4 (
 And.intro @st4 (
 And.intro @sz4 (
 And.intro @zr4 (
 And.intro @kn5 (
 And.intro @st5 (
 And.intro @sz5 (
 And.intro @zr5 (
 And.intro @tU (
 And.intro @tV (
 And.intro @tY (
 And.intro @tW (
 And.intro @tZ (
 And.intro @ta (
 And.intro @th (
 And.intro @td (
 And.intro @tj (
 And.intro @tm (
 And.intro @tq (
 And.intro @tn (
 And.intro @tr (
 And.intro @tu (
 And.intro @tz (
 And.intro @tw (
 And.intro @u4 (
 And.intro @u5 (
 And.intro @u9 (
 And.intro @u6 (
 And.intro @uB (
 And.intro @uC (
 And.intro @uF (
 And.intro @uD (
 And.intro @uH (
 And.intro @uI (
 And.intro @uL (
 And.intro @uJ (
 And.intro @uN (
 And.intro @uO (
 And.intro @uR (
 And.intro @uP (
 And.intro @uT (
 And.intro @uU (
 And.intro @uX (
 And.intro @uV (
 And.intro @uY (
 And.intro @uZ (
 And.intro @uc (
 And.intro @ua (
 And.intro @ue (
 And.intro @uf (
 And.intro @uj (
 And.intro @ug (
 And.intro @ul (
 And.intro @um (
 And.intro @uq (
 And.intro @un (
 And.intro @ut (
 And.intro @uu (
 And.intro @ux (
 And.intro @uv (
 And.intro @uy (
 And.intro @uz (
 And.intro @v8 (
 And.intro @v6 (
 And.intro @vB (
 And.intro @vC (
 And.intro @vF (
 And.intro @vD (
 And.intro @vH (
 And.intro @vI (
 And.intro @vL (
 And.intro @vJ (
 And.intro @vN (
 And.intro @vO (
 And.intro @vR (
 And.intro @vP (
 And.intro @vT (
 And.intro @vU (
 And.intro @vX (
 And.intro @vV (
 And.intro @gq (
 And.intro @gr (
 And.intro @gv (
 And.intro @gt (
 And.intro @gx (
 And.intro @gy (
 And.intro @hP (
 And.intro @gz (
 And.intro @hX (
 And.intro @hZ (
 And.intro @i6 (
 And.intro @i4 (
 And.intro @i8 (
 And.intro @i9 (
 And.intro @iC (
 And.intro @iA (
 And.intro @iE (
 And.intro @iF (
 And.intro @iI (
 And.intro @iG (
 And.intro @iK (
 And.intro @iL (
 And.intro @iO (
 And.intro @iM (
 And.intro @tg (
 And.intro @u7 (
 And.intro @uE (
 And.intro @uQ (
 And.intro @uo (
 And.intro @uw (
 And.intro @v7 (
 And.intro @zo3 (
 And.intro @zo4 (
 And.intro @zo5 (
 And.intro @tX (
 And.intro @tp (
 And.intro @tx (
 And.intro @uK (
 And.intro @uW (
 And.intro @ub (
 And.intro @uh (
 And.intro @vE (
 And.intro @vK (
 And.intro @vQ (
 And.intro @vW (
 And.intro @gu (
 And.intro @hJ (
 And.intro @i5 (
 And.intro @iB (
 And.intro @iH (
 And.intro @iN (
 And.intro @le3 (
 And.intro @le4 (
 And.intro @le5 (
 And.intro @le6 (
 And.intro @le7 (
 And.intro @le8 (
 And.intro @le9 (
 And.intro @vY (
 And.intro @vZ (
 And.intro @vd (
 And.intro @ve (
 And.intro @vf (
 And.intro @vg (
 And.intro @vh (
 And.intro @vi (
 And.intro @vj (
 And.intro @vk (
 And.intro @vl (
 And.intro @vm (
 And.intro @vn (
 And.intro @vo (
 And.intro @vp (
 And.intro @vq (
 And.intro @vr (
 And.intro @vz (
 And.intro @w3 (
 And.intro @w4 (
 And.intro @w5 (
 And.intro @w6 (
 And.intro @w7 (
 And.intro @w8 (
 And.intro @w9 (
 And.intro @wA (
 And.intro @wB (
 And.intro @wC (
 And.intro @wD (
 And.intro @wE (
 And.intro @wF (
 And.intro @wG (
 And.intro @wH (
 And.intro @wI (
 And.intro @wJ (
 And.intro @wK (
 And.intro @wL (
 And.intro @wM (
 And.intro @wN (
 And.intro @wO (
 And.intro @wP (
 And.intro @wQ (
 And.intro @wR (
 And.intro @wS (
 And.intro @wT (
 And.intro @wU (
 And.intro @wV (
 And.intro @wW (
 And.intro @wX (
 And.intro @wY (
 And.intro @wZ (
 And.intro @wa (
 And.intro @wb (
 And.intro @wc (
 And.intro @wd (
 And.intro @we (
 And.intro @wg (
 And.intro @wh (
 And.intro @wi (
 And.intro @wj (
 And.intro @wk (
 And.intro @wl (
 And.intro @wm (
 And.intro @wo (
 And.intro @lY (
 And.intro @wq (
 And.intro @wt (
 And.intro @wu (
 And.intro @wv (
 And.intro @ww (
 And.intro @wx (
 And.intro @wy (
 And.intro @wz (
 And.intro @x4 (
 And.intro @x5 (
 And.intro @lZ (
 And.intro @x6 (
 And.intro @x7 (
 And.intro @x8 (
 And.intro @x9 (
 And.intro @xA (
 And.intro @xB (
 And.intro @xC (
 And.intro @xD (
 And.intro @xE (
 And.intro @xF (
 And.intro @xG (
 And.intro @xH (
 And.intro @xI (
 And.intro @xJ (
 And.intro @iP (
 And.intro @iQ (
 And.intro @iR (
 And.intro @iS (
 And.intro @iT (
 And.intro @iU (
 And.intro @iV (
 And.intro @iW (
 And.intro @iX (
 And.intro @iY (
 And.intro @iZ (
 And.intro @ia (
 And.intro @ib (
 And.intro @ic (
 And.intro @ie (
 And.intro @ig (
 And.intro @ii (
 And.intro @ij (
 And.intro @ik (
 And.intro @il (
 And.intro @im (
 And.intro @io (
 And.intro @ip (
 And.intro @iq (
 And.intro @ir (
 And.intro @it (
 And.intro @iu (
 And.intro @iv (
 And.intro @iw (
 And.intro @ix (
 And.intro @iy (
 And.intro @iz (
 And.intro @j1 (
 And.intro @j3 (
 And.intro @j4 (@j5)))))))))))))))))))))))))))))))))))))))))))))))))))))))))))))))))))))))))))))))))))))))))))))))))))))))))))))))))))))))))))))))))))))))))))))))))))))))))))))))))))))))))))))))))))))))))))))))))))))))))))))))))))))))))))))))))))))))))))))))))))))))))))))))))))))))))))))))))))))))))))))))))))))))))))
theorem aS(zs:List Int)(h:zs.length<1099511627776):Y.call 96 [.clo 110 [.cptr [.sl 3 (A9 (D.int .i64) zs)]]] []=some (.own 3 (A9 (D.int .i64) (GA zs)),[]):=Dv.Sys.call_base ((RR 96 110 3 zs h))
theorem gJ(zs:List Int)(h:zs.length<4611686018427387904):Y.call 76 [.vw [100000] 0 0] [.own 3 (A9 (D.int .i64) zs)]=some (.tup [],[.own 3 (A9 (D.int .i64) (GA zs))]):=Dv.Sys.call_base (Wc<|(WZ 76 3 zs h))
theorem Wd(xs:List D)(h:xs.length<1099511627776)(hs:xs.all Ax=true)(ho:AF xs=false)(hf:(Bz (.own 3 xs)).isSome=true):Y.call 43 [.sl 3 xs] []=some (.own 3 xs,[]):=by
 cases xs with
 | nil=>exact Dv.Sys.call_base rfl
 | cons x xs=>
  refine AC (Y:=Y) rfl Tryz.func43 xM cm ?_
  show Av Y.env xL (fin AJ 0 [ResultVar.tmp 2] _) _
  unfold xL
  have h0:0+(x::xs).length<1099511627776:=by omega
  simp only [List.length_cons,Nat.zero_add]at h0
  simp only [List.all_cons,ZA]at hs ho
  simp only [↓A8,A1,AA,implies_true,Option.bind_some,Option.map_some,Option.isSome_some,↓reduceIte,Nat.reduceEqDiff,Nat.reduceLT,Nat.reduceLeDiff,Nat.reduceAdd,Nat.reduceMul,Nat.reduceMod,Nat.reduceSub,List.contains_cons,List.contains_nil,Nat.reduceBEq,List.getD_cons_zero,List.getD_cons_succ,List.getD_nil,List.length_cons,List.length_nil,List.size_toArray,List.toList_toArray,List.zip_cons_cons,List.zip_nil_left,List.append_nil,List.nil_append,List.cons_append,List.map_cons,List.map_nil,List.replicate_succ,List.replicate_zero,List.set_cons_zero,List.set_cons_succ,List.set_set,List.all_cons,List.any_cons,List.any_nil,List.all_nil,List.getElem?_cons_zero,List.getElem?_cons_succ,List.getElem?_nil,List.range_zero,beq_self_eq_true,Int.reduceLE,Int.reduceLT,Int.reduceEq,Int.reduceSub,Int.reduceAdd,Int.reduceToNat,Int.reduceNeg,Nat.zero_add,h0,hs,ho]
  simp only [cG,P9]at hf
  rw [if_pos hf]
end Go.Proofs.YtipfckompmhljaaGreat
