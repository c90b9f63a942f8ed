/- The types of this seat as data, and the system of its calls. Conditions: none. -/
import Derived.Test.YtjjahjjhohcidaaRows
import Derived.Test.YtjjahjjhohcidaaL6
import Derived.Test.YtjjahjjhohcidaaSv
import Derived.KernelRfl
namespace Go.Proofs.Ytjjahjjhohcidaa
open Go Dv
set_option linter.unusedSimpArgs false
set_option maxRecDepth 100000
def UV:List Ty:=[.other, .func, .int .i64, .int .i64, .bool, .int .u8, .int .u8, .struct [2,3,4,6], .struct [2,3,4,6], .string, .string, .string, .int .u64, .struct [9,12], .struct [9,12], .ptr, .ptr, .ptr, .struct [17], .struct [17], .other, .int .i32, .slice 100, .slice 3, .struct [22,23,23], .struct [22,23,23], .func, .other, .func, .slice 104, .struct [29,23,23], .struct [29,23,23], .func, .func, .func, .func, .func, .struct [3,23,3,3], .struct [3,23,3,3], .func, .func, .struct [3,23,3,3], .func, .func, .func, .func, .func, .other, .func, .func, .func, .func, .other, .func, .other, .func, .func, .slice 23, .struct [3,3,57,57], .struct [3,3,57,57], .func, .func, .struct [3,3,57,57], .func, .func, .func, .func, .func, .func, .func, .func, .func, .func, .func, .func, .func, .func, .func, .other, .func, .func, .other, .func, .func, .func, .func, .func, .slice 4, .func, .struct [3,3,57,57,3,3,57,57,87,87], .struct [3,3,57,57,3,3,57,57,87,87], .func, .func, .func, .ptr, .struct [3,3,57,57,3,3,57,57,23], .struct [3,3,57,57,3,3,57,57,23], .func, .func, .func, .slice 134, .func, .func, .func, .slice 106, .struct [3,3], .struct [3,3], .func, .func, .func, .func, .map 3 3, .func, .func, .func, .func, .func, .func, .func, .func, .func, .slice 123, .struct [3,3,3,3], .struct [3,3,3,3], .func, .func, .func, .func, .func, .func, .func, .func, .func, .func, .struct [3,3], .func, .func, .func, .func, .func, .func, .map 143 3, .other, .other, .func, .func, .func, .func, .int .u64, .func, .func, .func, .func, .func, .func, .int .i64, .other, .func, .func, .func, .func, .int .u32, .func, .int .u64, .func, .int .u64, .func, .func, .func, .ptr, .func, .ptr, .other, .func, .func, .struct [17,17,17,9], .struct [17,17,17,9], .other, .other, .other, .func, .int .u8, .int .u8, .func, .ptr, .int .i32, .int .i32, .struct [12,12,161,181,5,5,182,183,184,185,186], .struct [12,12,161,181,5,5,182,183,184,185,186], .func]
def Vv:List (TypeId×List (Nat×TypeId)):=[(89,[(0,62),(4,62),(8,87),(9,87)]),(90,[(0,62),(4,62),(8,87),(9,87)]),(95,[(0,62),(4,62),(8,23)]),(96,[(0,62),(4,62),(8,23)])]
def AE:Tys:=Rh UV Vv
def lends(f:FuncId):Bool:=[26,33,40,64,75,77,103,110,120,185].contains f
theorem ty1:AE.ty 1= .func:=nr rfl
theorem ty2:AE.ty 2= .int .i64:=nr rfl
theorem nH:AE.ty 3= .int .i64:=nr rfl
theorem tT:AE.known 3=true:=nr rfl
theorem vT:AE.isStruct 3=false:=nr rfl
theorem vU:AE.zeros 3=[.int .i64 0]:=nr rfl
theorem vV:AE.zero1 3= .int .i64 0:=nr rfl
theorem nI:AE.size 3=1:=nr rfl
theorem vW:AE.ty 4= .bool:=nr rfl
theorem vX:AE.known 4=true:=nr rfl
theorem vY:AE.isStruct 4=false:=nr rfl
theorem vZ:AE.zeros 4=[.bool false]:=nr rfl
theorem vd:AE.zero1 4= .bool false:=nr rfl
theorem ve:AE.size 4=1:=nr rfl
theorem vf:AE.ty 5= .int .u8:=nr rfl
theorem vg:AE.known 5=true:=nr rfl
theorem vh:AE.isStruct 5=false:=nr rfl
theorem vi:AE.zeros 5=[.int .u8 0]:=nr rfl
theorem vj:AE.zero1 5= .int .u8 0:=nr rfl
theorem vk:AE.size 5=1:=nr rfl
theorem ty6:AE.ty 6= .int .u8:=nr rfl
theorem ty7:AE.ty 7= .struct [2,3,4,6]:=nr rfl
theorem ty8:AE.ty 8= .struct [2,3,4,6]:=nr rfl
theorem ty9:AE.ty 9= .string:=nr rfl
theorem zL:AE.ty 10= .string:=nr rfl
theorem zM:AE.ty 11= .string:=nr rfl
theorem zN:AE.ty 12= .int .u64:=nr rfl
theorem zO:AE.ty 13= .struct [9,12]:=nr rfl
theorem zP:AE.ty 14= .struct [9,12]:=nr rfl
theorem zQ:AE.ty 15= .ptr:=nr rfl
theorem zR:AE.ty 16= .ptr:=nr rfl
theorem zS:AE.ty 17= .ptr:=nr rfl
theorem zT:AE.ty 18= .struct [17]:=nr rfl
theorem zU:AE.ty 19= .struct [17]:=nr rfl
theorem zV:AE.ty 21= .int .i32:=nr rfl
theorem bW:AE.ty 22= .slice 100:=nr rfl
theorem jG:AE.known 22=true:=nr rfl
theorem jH:AE.isStruct 22=false:=nr rfl
theorem jI:AE.zeros 22=[.own 100 []]:=nr rfl
theorem jJ:AE.zero1 22= .own 100 []:=nr rfl
theorem jK:AE.size 22=1:=nr rfl
theorem Vc:AE.ty 23= .slice 3:=nr rfl
theorem jL:AE.known 23=true:=nr rfl
theorem jM:AE.isStruct 23=false:=nr rfl
theorem jN:AE.zeros 23=[.own 3 []]:=nr rfl
theorem jO:AE.zero1 23= .own 3 []:=nr rfl
theorem jP:AE.size 23=1:=nr rfl
theorem zW:AE.ty 24= .struct [22,23,23]:=nr rfl
theorem bX:AE.ty 25= .struct [22,23,23]:=nr rfl
theorem jQ:AE.known 25=true:=nr rfl
theorem jR:AE.isStruct 25=true:=nr rfl
theorem jS:AE.zeros 25=[.own 100 [], .own 3 [], .own 3 []]:=nr rfl
theorem jT:AE.nest 25=none:=nr rfl
theorem jU:AE.size 25=3:=nr rfl
theorem zX:AE.ty 26= .func:=nr rfl
theorem zY:AE.ty 28= .func:=nr rfl
theorem jV:AE.ty 29= .slice 104:=nr rfl
theorem jW:AE.known 29=true:=nr rfl
theorem jX:AE.isStruct 29=false:=nr rfl
theorem jY:AE.zeros 29=[.own 104 []]:=nr rfl
theorem jZ:AE.zero1 29= .own 104 []:=nr rfl
theorem ja:AE.size 29=1:=nr rfl
theorem zZ:AE.ty 30= .struct [29,23,23]:=nr rfl
theorem jb:AE.ty 31= .struct [29,23,23]:=nr rfl
theorem jc:AE.known 31=true:=nr rfl
theorem jd:AE.isStruct 31=true:=nr rfl
theorem je:AE.zeros 31=[.own 104 [], .own 3 [], .own 3 []]:=nr rfl
theorem jf:AE.nest 31=none:=nr rfl
theorem jg:AE.size 31=3:=nr rfl
theorem za:AE.ty 32= .func:=nr rfl
theorem zb:AE.ty 33= .func:=nr rfl
theorem zd:AE.ty 34= .func:=nr rfl
theorem ze:AE.ty 35= .func:=nr rfl
theorem zf:AE.ty 36= .func:=nr rfl
theorem zg:AE.ty 37= .struct [3,23,3,3]:=nr rfl
theorem jh:AE.ty 38= .struct [3,23,3,3]:=nr rfl
theorem ji:AE.known 38=true:=nr rfl
theorem jj:AE.isStruct 38=true:=nr rfl
theorem jk:AE.zeros 38=[.int .i64 0, .own 3 [], .int .i64 0, .int .i64 0]:=nr rfl
theorem jl:AE.nest 38=none:=nr rfl
theorem jm:AE.size 38=4:=nr rfl
theorem zh:AE.ty 39= .func:=nr rfl
theorem zi:AE.ty 40= .func:=nr rfl
theorem jn:AE.ty 41= .struct [3,23,3,3]:=nr rfl
theorem jo:AE.known 41=true:=nr rfl
theorem jp:AE.isStruct 41=true:=nr rfl
theorem jq:AE.zeros 41=[.int .i64 0, .own 3 [], .int .i64 0, .int .i64 0]:=nr rfl
theorem jr:AE.nest 41=none:=nr rfl
theorem jt:AE.size 41=4:=nr rfl
theorem zj:AE.ty 42= .func:=nr rfl
theorem zk:AE.ty 43= .func:=nr rfl
theorem zm:AE.ty 44= .func:=nr rfl
theorem zn:AE.ty 45= .func:=nr rfl
theorem zo:AE.ty 46= .func:=nr rfl
theorem zp:AE.ty 48= .func:=nr rfl
theorem zq:AE.ty 49= .func:=nr rfl
theorem zr:AE.ty 50= .func:=nr rfl
theorem zt:AE.ty 51= .func:=nr rfl
theorem zu:AE.ty 53= .func:=nr rfl
theorem zv:AE.ty 55= .func:=nr rfl
theorem zw:AE.ty 56= .func:=nr rfl
theorem ju:AE.ty 57= .slice 23:=nr rfl
theorem jv:AE.known 57=true:=nr rfl
theorem jw:AE.isStruct 57=false:=nr rfl
theorem jx:AE.zeros 57=[.own 23 []]:=nr rfl
theorem jy:AE.zero1 57= .own 23 []:=nr rfl
theorem jz:AE.size 57=1:=nr rfl
theorem zx:AE.ty 58= .struct [3,3,57,57]:=nr rfl
theorem k5:AE.ty 59= .struct [3,3,57,57]:=nr rfl
theorem k6:AE.known 59=true:=nr rfl
theorem k7:AE.isStruct 59=true:=nr rfl
theorem k8:AE.zeros 59=[.int .i64 0, .int .i64 0, .own 23 [], .own 23 []]:=nr rfl
theorem k9:AE.nest 59=none:=nr rfl
theorem kA:AE.size 59=4:=nr rfl
theorem zy:AE.ty 60= .func:=nr rfl
theorem zz:AE.ty 61= .func:=nr rfl
theorem kB:AE.ty 62= .struct [3,3,57,57]:=nr rfl
theorem kC:AE.known 62=true:=nr rfl
theorem kD:AE.isStruct 62=true:=nr rfl
theorem kE:AE.zeros 62=[.int .i64 0, .int .i64 0, .own 23 [], .own 23 []]:=nr rfl
theorem kF:AE.nest 62=none:=nr rfl
theorem kG:AE.size 62=4:=nr rfl
theorem A00:AE.ty 63= .func:=nr rfl
theorem A01:AE.ty 64= .func:=nr rfl
theorem A02:AE.ty 65= .func:=nr rfl
theorem A03:AE.ty 66= .func:=nr rfl
theorem A04:AE.ty 67= .func:=nr rfl
theorem A05:AE.ty 68= .func:=nr rfl
theorem A06:AE.ty 69= .func:=nr rfl
theorem A07:AE.ty 70= .func:=nr rfl
theorem A08:AE.ty 71= .func:=nr rfl
theorem A09:AE.ty 72= .func:=nr rfl
theorem kH:AE.ty 73= .func:=nr rfl
theorem kI:AE.known 73=true:=nr rfl
theorem kJ:AE.isStruct 73=false:=nr rfl
theorem kK:AE.zeros 73=[.konst .nilFunc]:=nr rfl
theorem kL:AE.zero1 73= .konst .nilFunc:=nr rfl
theorem kM:AE.size 73=1:=nr rfl
theorem A0A:AE.ty 74= .func:=nr rfl
theorem A0B:AE.ty 75= .func:=nr rfl
theorem A0C:AE.ty 76= .func:=nr rfl
theorem A0D:AE.ty 77= .func:=nr rfl
theorem A0E:AE.ty 79= .func:=nr rfl
theorem A0F:AE.ty 80= .func:=nr rfl
theorem A0G:AE.ty 82= .func:=nr rfl
theorem A0H:AE.ty 83= .func:=nr rfl
theorem A0I:AE.ty 84= .func:=nr rfl
theorem kN:AE.ty 85= .func:=nr rfl
theorem kO:AE.known 85=true:=nr rfl
theorem kP:AE.isStruct 85=false:=nr rfl
theorem kQ:AE.zeros 85=[.konst .nilFunc]:=nr rfl
theorem kR:AE.zero1 85= .konst .nilFunc:=nr rfl
theorem kS:AE.size 85=1:=nr rfl
theorem A0J:AE.ty 86= .func:=nr rfl
theorem kT:AE.ty 87= .slice 4:=nr rfl
theorem kU:AE.known 87=true:=nr rfl
theorem kV:AE.isStruct 87=false:=nr rfl
theorem kW:AE.zeros 87=[.own 4 []]:=nr rfl
theorem kX:AE.zero1 87= .own 4 []:=nr rfl
theorem kY:AE.size 87=1:=nr rfl
theorem A0K:AE.ty 88= .func:=nr rfl
theorem A0L:AE.ty 89= .struct [3,3,57,57,3,3,57,57,87,87]:=nr rfl
theorem kZ:AE.ty 90= .struct [3,3,57,57,3,3,57,57,87,87]:=nr rfl
theorem kb:AE.known 90=true:=nr rfl
theorem kc:AE.isStruct 90=true:=nr rfl
theorem kd:AE.zeros 90=[.int .i64 0, .int .i64 0, .own 23 [], .own 23 [], .int .i64 0, .int .i64 0, .own 23 [], .own 23 [], .own 4 [], .own 4 []]:=nr rfl
theorem ke:AE.nest 90=some [(0,62),(4,62),(8,87),(9,87)]:=nr rfl
theorem Tm:AE.foff 90 0=some 0:=nr rfl
theorem Tn:AE.foff 90 1=some 4:=nr rfl
theorem To:AE.foff 90 2=some 8:=nr rfl
theorem Tp:AE.foff 90 3=some 9:=nr rfl
theorem kf:AE.size 90=10:=nr rfl
theorem A0M:AE.ty 91= .func:=nr rfl
theorem A0N:AE.ty 92= .func:=nr rfl
theorem A0O:AE.ty 93= .func:=nr rfl
theorem kg:AE.ty 94= .ptr:=nr rfl
theorem ki:AE.known 94=true:=nr rfl
theorem kj:AE.isStruct 94=false:=nr rfl
theorem kk:AE.zeros 94=[.konst (.pointer none)]:=nr rfl
theorem kl:AE.zero1 94= .konst (.pointer none):=nr rfl
theorem ko:AE.size 94=1:=nr rfl
theorem A0P:AE.ty 95= .struct [3,3,57,57,3,3,57,57,23]:=nr rfl
theorem kp:AE.ty 96= .struct [3,3,57,57,3,3,57,57,23]:=nr rfl
theorem kq:AE.known 96=true:=nr rfl
theorem kr:AE.isStruct 96=true:=nr rfl
theorem ks:AE.zeros 96=[.int .i64 0, .int .i64 0, .own 23 [], .own 23 [], .int .i64 0, .int .i64 0, .own 23 [], .own 23 [], .own 3 []]:=nr rfl
theorem kt:AE.nest 96=some [(0,62),(4,62),(8,23)]:=nr rfl
theorem Tq:AE.foff 96 0=some 0:=nr rfl
theorem Tr:AE.foff 96 1=some 4:=nr rfl
theorem Ts:AE.foff 96 2=some 8:=nr rfl
theorem ku:AE.size 96=9:=nr rfl
theorem A0Q:AE.ty 97= .func:=nr rfl
theorem A0R:AE.ty 98= .func:=nr rfl
theorem A0S:AE.ty 99= .func:=nr rfl
theorem Tt:AE.ty 100= .slice 134:=nr rfl
theorem W4:AE.known 100=true:=nr rfl
theorem W5:AE.isStruct 100=false:=nr rfl
theorem W6:AE.zeros 100=[.own 134 []]:=nr rfl
theorem W7:AE.zero1 100= .own 134 []:=nr rfl
theorem W8:AE.size 100=1:=nr rfl
theorem vl:AE.ty 101= .func:=nr rfl
theorem vm:AE.ty 102= .func:=nr rfl
theorem vn:AE.ty 103= .func:=nr rfl
theorem W9:AE.ty 104= .slice 106:=nr rfl
theorem WA:AE.known 104=true:=nr rfl
theorem WB:AE.isStruct 104=false:=nr rfl
theorem WC:AE.zeros 104=[.own 106 []]:=nr rfl
theorem WD:AE.zero1 104= .own 106 []:=nr rfl
theorem WE:AE.size 104=1:=nr rfl
theorem vo:AE.ty 105= .struct [3,3]:=nr rfl
theorem WF:AE.ty 106= .struct [3,3]:=nr rfl
theorem WG:AE.known 106=true:=nr rfl
theorem WH:AE.isStruct 106=true:=nr rfl
theorem WI:AE.zeros 106=[.int .i64 0, .int .i64 0]:=nr rfl
theorem WJ:AE.nest 106=none:=nr rfl
theorem WK:AE.size 106=2:=nr rfl
theorem vp:AE.ty 107= .func:=nr rfl
theorem vq:AE.ty 108= .func:=nr rfl
theorem vr:AE.ty 109= .func:=nr rfl
theorem vz:AE.ty 110= .func:=nr rfl
theorem WL:AE.ty 111= .map 3 3:=nr rfl
theorem w3:AE.ty 112= .func:=nr rfl
theorem w4:AE.ty 113= .func:=nr rfl
theorem w5:AE.ty 114= .func:=nr rfl
theorem w6:AE.ty 115= .func:=nr rfl
theorem w7:AE.ty 116= .func:=nr rfl
theorem WM:AE.ty 117= .func:=nr rfl
theorem WN:AE.known 117=true:=nr rfl
theorem WO:AE.isStruct 117=false:=nr rfl
theorem WP:AE.zeros 117=[.konst .nilFunc]:=nr rfl
theorem WQ:AE.zero1 117= .konst .nilFunc:=nr rfl
theorem WS:AE.size 117=1:=nr rfl
theorem WT:AE.ty 118= .func:=nr rfl
theorem WU:AE.known 118=true:=nr rfl
theorem WV:AE.isStruct 118=false:=nr rfl
theorem WW:AE.zeros 118=[.konst .nilFunc]:=nr rfl
theorem WX:AE.zero1 118= .konst .nilFunc:=nr rfl
theorem WY:AE.size 118=1:=nr rfl
theorem w8:AE.ty 119= .func:=nr rfl
theorem w9:AE.ty 120= .func:=nr rfl
theorem WZ:AE.ty 121= .slice 123:=nr rfl
theorem Wa:AE.known 121=true:=nr rfl
theorem Wb:AE.isStruct 121=false:=nr rfl
theorem Wc:AE.zeros 121=[.own 123 []]:=nr rfl
theorem Wd:AE.zero1 121= .own 123 []:=nr rfl
theorem We:AE.size 121=1:=nr rfl
theorem wA:AE.ty 122= .struct [3,3,3,3]:=nr rfl
theorem Wf:AE.ty 123= .struct [3,3,3,3]:=nr rfl
theorem Wg:AE.known 123=true:=nr rfl
theorem Wh:AE.isStruct 123=true:=nr rfl
theorem Wi:AE.zeros 123=[.int .i64 0, .int .i64 0, .int .i64 0, .int .i64 0]:=nr rfl
theorem Wj:AE.nest 123=none:=nr rfl
theorem Wk:AE.size 123=4:=nr rfl
theorem wB:AE.ty 124= .func:=nr rfl
theorem Wl:AE.ty 125= .func:=nr rfl
theorem Wm:AE.known 125=true:=nr rfl
theorem Wn:AE.isStruct 125=false:=nr rfl
theorem Wo:AE.zeros 125=[.konst .nilFunc]:=nr rfl
theorem Wp:AE.zero1 125= .konst .nilFunc:=nr rfl
theorem Wq:AE.size 125=1:=nr rfl
theorem wC:AE.ty 126= .func:=nr rfl
theorem wD:AE.ty 127= .func:=nr rfl
theorem wE:AE.ty 128= .func:=nr rfl
theorem wF:AE.ty 129= .func:=nr rfl
theorem wG:AE.ty 130= .func:=nr rfl
theorem wH:AE.ty 131= .func:=nr rfl
theorem wI:AE.ty 132= .func:=nr rfl
theorem wJ:AE.ty 133= .func:=nr rfl
theorem Tu:AE.ty 134= .struct [3,3]:=nr rfl
theorem Wr:AE.known 134=true:=nr rfl
theorem Ws:AE.isStruct 134=true:=nr rfl
theorem Wt:AE.zeros 134=[.int .i64 0, .int .i64 0]:=nr rfl
theorem Wu:AE.nest 134=none:=nr rfl
theorem Wv:AE.size 134=2:=nr rfl
theorem wK:AE.ty 135= .func:=nr rfl
theorem wL:AE.ty 136= .func:=nr rfl
theorem wM:AE.ty 137= .func:=nr rfl
theorem wN:AE.ty 138= .func:=nr rfl
theorem Ww:AE.ty 139= .func:=nr rfl
theorem Wx:AE.known 139=true:=nr rfl
theorem Wy:AE.isStruct 139=false:=nr rfl
theorem Wz:AE.zeros 139=[.konst .nilFunc]:=nr rfl
theorem X0:AE.zero1 139= .konst .nilFunc:=nr rfl
theorem X1:AE.size 139=1:=nr rfl
theorem wO:AE.ty 140= .func:=nr rfl
theorem X2:AE.ty 141= .map 143 3:=nr rfl
theorem wP:AE.ty 144= .func:=nr rfl
theorem wQ:AE.ty 145= .func:=nr rfl
theorem wR:AE.ty 146= .func:=nr rfl
theorem wS:AE.ty 147= .func:=nr rfl
theorem X3:AE.ty 148= .int .u64:=nr rfl
theorem X4:AE.known 148=true:=nr rfl
theorem X5:AE.isStruct 148=false:=nr rfl
theorem X6:AE.zeros 148=[.int .u64 0]:=nr rfl
theorem X7:AE.zero1 148= .int .u64 0:=nr rfl
theorem X8:AE.size 148=1:=nr rfl
theorem wT:AE.ty 149= .func:=nr rfl
theorem wU:AE.ty 150= .func:=nr rfl
theorem wV:AE.ty 151= .func:=nr rfl
theorem X9:AE.ty 152= .func:=nr rfl
theorem XA:AE.known 152=true:=nr rfl
theorem XB:AE.isStruct 152=false:=nr rfl
theorem XC:AE.zeros 152=[.konst .nilFunc]:=nr rfl
theorem XD:AE.zero1 152= .konst .nilFunc:=nr rfl
theorem XE:AE.size 152=1:=nr rfl
theorem wW:AE.ty 153= .func:=nr rfl
theorem wX:AE.ty 154= .func:=nr rfl
theorem XF:AE.ty 155= .int .i64:=nr rfl
theorem XG:AE.known 155=true:=nr rfl
theorem XH:AE.isStruct 155=false:=nr rfl
theorem XI:AE.zeros 155=[.int .i64 0]:=nr rfl
theorem XJ:AE.zero1 155= .int .i64 0:=nr rfl
theorem XK:AE.size 155=1:=nr rfl
theorem wY:AE.ty 157= .func:=nr rfl
theorem wZ:AE.ty 158= .func:=nr rfl
theorem wa:AE.ty 159= .func:=nr rfl
theorem wb:AE.ty 160= .func:=nr rfl
theorem XL:AE.ty 161= .int .u32:=nr rfl
theorem XM:AE.known 161=true:=nr rfl
theorem XN:AE.isStruct 161=false:=nr rfl
theorem XO:AE.zeros 161=[.int .u32 0]:=nr rfl
theorem XP:AE.zero1 161= .int .u32 0:=nr rfl
theorem XQ:AE.size 161=1:=nr rfl
theorem wc:AE.ty 162= .func:=nr rfl
theorem XR:AE.ty 163= .int .u64:=nr rfl
theorem XS:AE.known 163=true:=nr rfl
theorem XT:AE.isStruct 163=false:=nr rfl
theorem XU:AE.zeros 163=[.int .u64 0]:=nr rfl
theorem XV:AE.zero1 163= .int .u64 0:=nr rfl
theorem XW:AE.size 163=1:=nr rfl
theorem wd:AE.ty 164= .func:=nr rfl
theorem XX:AE.ty 165= .int .u64:=nr rfl
theorem XY:AE.known 165=true:=nr rfl
theorem XZ:AE.isStruct 165=false:=nr rfl
theorem Xa:AE.zeros 165=[.int .u64 0]:=nr rfl
theorem Xb:AE.zero1 165= .int .u64 0:=nr rfl
theorem Xc:AE.size 165=1:=nr rfl
theorem we:AE.ty 166= .func:=nr rfl
theorem wg:AE.ty 167= .func:=nr rfl
theorem wh:AE.ty 168= .func:=nr rfl
theorem Xd:AE.ty 169= .ptr:=nr rfl
theorem Xe:AE.known 169=true:=nr rfl
theorem Xf:AE.isStruct 169=false:=nr rfl
theorem Xg:AE.zeros 169=[.konst (.pointer none)]:=nr rfl
theorem Xh:AE.zero1 169= .konst (.pointer none):=nr rfl
theorem Xi:AE.size 169=1:=nr rfl
theorem wi:AE.ty 170= .func:=nr rfl
theorem wj:AE.ty 171= .ptr:=nr rfl
theorem wk:AE.ty 173= .func:=nr rfl
theorem wl:AE.ty 174= .func:=nr rfl
theorem wm:AE.ty 175= .struct [17,17,17,9]:=nr rfl
theorem wn:AE.ty 176= .struct [17,17,17,9]:=nr rfl
theorem wo:AE.ty 180= .func:=nr rfl
theorem wq:AE.ty 181= .int .u8:=nr rfl
theorem wt:AE.ty 182= .int .u8:=nr rfl
theorem wu:AE.ty 183= .func:=nr rfl
theorem wv:AE.ty 184= .ptr:=nr rfl
theorem ww:AE.ty 185= .int .i32:=nr rfl
theorem wx:AE.ty 186= .int .i32:=nr rfl
theorem wy:AE.ty 187= .struct [12,12,161,181,5,5,182,183,184,185,186]:=nr rfl
theorem wz:AE.ty 188= .struct [12,12,161,181,5,5,182,183,184,185,186]:=nr rfl
theorem x4:AE.ty 189= .func:=nr rfl
theorem x5:lends 3=false:=nr rfl
theorem x6:lends 4=false:=nr rfl
theorem x7:lends 5=false:=nr rfl
theorem x8:lends 6=false:=nr rfl
theorem x9:lends 7=false:=nr rfl
theorem xA:lends 8=false:=nr rfl
theorem xB:lends 9=false:=nr rfl
theorem kv:lends 10=false:=nr rfl
theorem kw:lends 11=false:=nr rfl
theorem kx:lends 12=false:=nr rfl
theorem ky:lends 13=false:=nr rfl
theorem kz:lends 14=false:=nr rfl
theorem l3:lends 15=false:=nr rfl
theorem l4:lends 16=false:=nr rfl
theorem l5:lends 17=false:=nr rfl
theorem l6:lends 18=false:=nr rfl
theorem l7:lends 19=false:=nr rfl
theorem l8:lends 20=false:=nr rfl
theorem l9:lends 21=false:=nr rfl
theorem lA:lends 22=false:=nr rfl
theorem lB:lends 23=false:=nr rfl
theorem lC:lends 24=false:=nr rfl
theorem lD:lends 25=false:=nr rfl
theorem lE:lends 26=true:=nr rfl
theorem lF:lends 27=false:=nr rfl
theorem lG:lends 28=false:=nr rfl
theorem lH:lends 29=false:=nr rfl
theorem lI:lends 30=false:=nr rfl
theorem lJ:lends 31=false:=nr rfl
theorem lK:lends 32=false:=nr rfl
theorem lL:lends 33=true:=nr rfl
theorem lM:lends 34=false:=nr rfl
theorem lN:lends 35=false:=nr rfl
theorem lO:lends 36=false:=nr rfl
theorem lP:lends 37=false:=nr rfl
theorem lQ:lends 38=false:=nr rfl
theorem lR:lends 39=false:=nr rfl
theorem lS:lends 40=true:=nr rfl
theorem lT:lends 41=false:=nr rfl
theorem lU:lends 42=false:=nr rfl
theorem lV:lends 43=false:=nr rfl
theorem lW:lends 44=false:=nr rfl
theorem lX:lends 45=false:=nr rfl
theorem lY:lends 46=false:=nr rfl
theorem lZ:lends 47=false:=nr rfl
theorem la:lends 48=false:=nr rfl
theorem ld:lends 49=false:=nr rfl
theorem lf:lends 50=false:=nr rfl
theorem lg:lends 51=false:=nr rfl
theorem lh:lends 52=false:=nr rfl
theorem li:lends 53=false:=nr rfl
theorem lj:lends 54=false:=nr rfl
theorem lk:lends 55=false:=nr rfl
theorem ll:lends 56=false:=nr rfl
theorem lm:lends 57=false:=nr rfl
theorem ln:lends 58=false:=nr rfl
theorem lp:lends 59=false:=nr rfl
theorem lq:lends 60=false:=nr rfl
theorem lr:lends 61=false:=nr rfl
theorem lu:lends 62=false:=nr rfl
theorem lw:lends 63=false:=nr rfl
theorem lx:lends 64=true:=nr rfl
theorem ly:lends 65=false:=nr rfl
theorem lz:lends 66=false:=nr rfl
theorem mA:lends 67=false:=nr rfl
theorem mB:lends 68=false:=nr rfl
theorem mC:lends 69=false:=nr rfl
theorem mD:lends 70=false:=nr rfl
theorem mE:lends 71=false:=nr rfl
theorem mF:lends 72=false:=nr rfl
theorem mG:lends 73=false:=nr rfl
theorem mH:lends 74=false:=nr rfl
theorem mI:lends 75=true:=nr rfl
theorem mJ:lends 76=false:=nr rfl
theorem mK:lends 77=true:=nr rfl
theorem mL:lends 78=false:=nr rfl
theorem mM:lends 79=false:=nr rfl
theorem mN:lends 80=false:=nr rfl
theorem mO:lends 81=false:=nr rfl
theorem mP:lends 82=false:=nr rfl
theorem mQ:lends 83=false:=nr rfl
theorem mR:lends 84=false:=nr rfl
theorem mS:lends 85=false:=nr rfl
theorem mT:lends 86=false:=nr rfl
theorem mU:lends 87=false:=nr rfl
theorem mV:lends 88=false:=nr rfl
theorem bY:lends 89=false:=nr rfl
theorem mW:lends 90=false:=nr rfl
theorem mX:lends 91=false:=nr rfl
theorem mY:lends 92=false:=nr rfl
theorem mZ:lends 93=false:=nr rfl
theorem ma:lends 94=false:=nr rfl
theorem mb:lends 95=false:=nr rfl
theorem mc:lends 96=false:=nr rfl
theorem md:lends 97=false:=nr rfl
theorem me:lends 98=false:=nr rfl
theorem mf:lends 99=false:=nr rfl
theorem Xj:lends 100=false:=nr rfl
theorem Xk:lends 101=false:=nr rfl
theorem Xl:lends 102=false:=nr rfl
theorem Xm:lends 103=true:=nr rfl
theorem Xn:lends 104=false:=nr rfl
theorem Xo:lends 105=false:=nr rfl
theorem Xp:lends 106=false:=nr rfl
theorem Xq:lends 107=false:=nr rfl
theorem Xr:lends 108=false:=nr rfl
theorem Xs:lends 109=false:=nr rfl
theorem Xt:lends 110=true:=nr rfl
theorem Xu:lends 111=false:=nr rfl
theorem Xv:lends 112=false:=nr rfl
theorem Xw:lends 113=false:=nr rfl
theorem Xx:lends 114=false:=nr rfl
theorem Xy:lends 115=false:=nr rfl
theorem Xz:lends 116=false:=nr rfl
theorem Y1:lends 117=false:=nr rfl
theorem Y2:lends 118=false:=nr rfl
theorem Y3:lends 119=false:=nr rfl
theorem Y4:lends 120=true:=nr rfl
theorem Y5:lends 121=false:=nr rfl
theorem Y6:lends 122=false:=nr rfl
theorem Y7:lends 123=false:=nr rfl
theorem Y8:lends 124=false:=nr rfl
theorem Y9:lends 125=false:=nr rfl
theorem YA:lends 126=false:=nr rfl
theorem YB:lends 127=false:=nr rfl
theorem YC:lends 128=false:=nr rfl
theorem YD:lends 129=false:=nr rfl
theorem YE:lends 130=false:=nr rfl
theorem YF:lends 131=false:=nr rfl
theorem YG:lends 132=false:=nr rfl
theorem YH:lends 133=false:=nr rfl
theorem YI:lends 134=false:=nr rfl
theorem YJ:lends 135=false:=nr rfl
theorem YK:lends 136=false:=nr rfl
theorem YL:lends 137=false:=nr rfl
theorem YM:lends 138=false:=nr rfl
theorem YN:lends 139=false:=nr rfl
theorem Tv:lends 140=false:=nr rfl
theorem YO:lends 141=false:=nr rfl
theorem YP:lends 142=false:=nr rfl
theorem YQ:lends 143=false:=nr rfl
theorem YR:lends 144=false:=nr rfl
theorem YS:lends 145=false:=nr rfl
theorem YT:lends 146=false:=nr rfl
theorem YU:lends 147=false:=nr rfl
theorem YV:lends 148=false:=nr rfl
theorem YW:lends 149=false:=nr rfl
theorem YX:lends 150=false:=nr rfl
theorem YY:lends 151=false:=nr rfl
theorem YZ:lends 152=false:=nr rfl
theorem Ya:lends 153=false:=nr rfl
theorem Yb:lends 154=false:=nr rfl
theorem Yc:lends 155=false:=nr rfl
theorem Yd:lends 156=false:=nr rfl
theorem Ye:lends 157=false:=nr rfl
theorem Yf:lends 158=false:=nr rfl
theorem Yg:lends 159=false:=nr rfl
theorem Yh:lends 160=false:=nr rfl
theorem Yi:lends 161=false:=nr rfl
theorem Yj:lends 162=false:=nr rfl
theorem Yk:lends 163=false:=nr rfl
theorem Yl:lends 164=false:=nr rfl
theorem Ym:lends 165=false:=nr rfl
theorem Yn:lends 166=false:=nr rfl
theorem Yo:lends 167=false:=nr rfl
theorem Yp:lends 168=false:=nr rfl
theorem Yq:lends 169=false:=nr rfl
theorem Yr:lends 170=false:=nr rfl
theorem Ys:lends 171=false:=nr rfl
theorem Yt:lends 172=false:=nr rfl
theorem Yu:lends 173=false:=nr rfl
theorem Yv:lends 174=false:=nr rfl
theorem Yw:lends 175=false:=nr rfl
theorem Yx:lends 176=false:=nr rfl
theorem Yy:lends 177=false:=nr rfl
theorem Yz:lends 178=false:=nr rfl
theorem Z0:lends 179=false:=nr rfl
theorem Z1:lends 180=false:=nr rfl
theorem Z2:lends 181=false:=nr rfl
theorem Z3:lends 182=false:=nr rfl
theorem Z4:lends 183=false:=nr rfl
theorem Z5:lends 184=false:=nr rfl
theorem Z6:lends 185=true:=nr rfl
theorem Z7:lends 186=false:=nr rfl
theorem Z8:lends 187=false:=nr rfl
set_option maxRecDepth 100000 in
theorem bZ:An Try.prog AE:=Zr (by kernel_rfl)
theorem mixed:Try.prog.follows .mixedOrders=true:=by kernel_rfl
noncomputable def Y0:Dv.Sys:={P:=Try.prog,T:=AE,lends:=lends,base:=fun _ _ _=>none}
theorem tU:Dv.Sys.Ok Y0:=⟨bZ,mixed,fun _ _ _ _ _ h=>by cases h⟩
theorem tV(T:Tys)(s:St)(t:TypeId):ev T s t (.const .nilFunc)=some (.konst .nilFunc):=nr rfl
theorem tW(T:Tys)(s:St)(t:TypeId):ev T s t (.const .nilIface)=some (.konst .nilIface):=nr rfl
theorem tX(T:Tys)(s:St)(t:TypeId):ev T s t (.const (.pointer none))=some (.konst (.pointer none)):=nr rfl
theorem y0T:Y0.T=AE:=nr rfl
theorem y0L:Y0.lends=lends:=nr rfl
set_option maxRecDepth 10000 in
set_option linter.defProp false in
def mg:=
 And.intro @y0T (
 And.intro @y0L (
 And.intro @nH (
 And.intro @vW (
 And.intro @vf (
 And.intro @bW (
 And.intro @Vc (
 And.intro @bX (
 And.intro @jV (
 And.intro @jb (
 And.intro @jh (
 And.intro @jn (
 And.intro @ju (
 And.intro @k5 (
 And.intro @kB (
 And.intro @kH (
 And.intro @kN (
 And.intro @kT (
 And.intro @kZ (
 And.intro @kg (
 And.intro @kp (
 And.intro @Tt (
 And.intro @W9 (
 And.intro @WF (
 And.intro @WL (
 And.intro @WM (
 And.intro @WT (
 And.intro @WZ (
 And.intro @Wf (
 And.intro @Wl (
 And.intro @Tu (
 And.intro @Ww (
 And.intro @X2 (
 And.intro @X3 (
 And.intro @X9 (
 And.intro @XF (
 And.intro @XL (
 And.intro @XR (
 And.intro @XX (
 And.intro @Xd (
 And.intro @tT (
 And.intro @vT (
 And.intro @nI (
 And.intro @vU (
 And.intro @vX (
 And.intro @vY (
 And.intro @ve (
 And.intro @vZ (
 And.intro @vg (
 And.intro @vh (
 And.intro @vk (
 And.intro @vi (
 And.intro @jG (
 And.intro @jH (
 And.intro @jK (
 And.intro @jI (
 And.intro @jL (
 And.intro @jM (
 And.intro @jP (
 And.intro @jN (
 And.intro @jQ (
 And.intro @jR (
 And.intro @jU (
 And.intro @jS (
 And.intro @jW (
 And.intro @jX (
 And.intro @ja (
 And.intro @jY (
 And.intro @jc (
 And.intro @jd (
 And.intro @jg (
 And.intro @je (
 And.intro @ji (
 And.intro @jj (
 And.intro @jm (
 And.intro @jk (
 And.intro @jo (
 And.intro @jp (
 And.intro @jt (
 And.intro @jq (
 And.intro @jv (
 And.intro @jw (
 And.intro @jz (
 And.intro @jx (
 And.intro @k6 (
 And.intro @k7 (
 And.intro @kA (
 And.intro @k8 (
 And.intro @kC (
 And.intro @kD (
 And.intro @kG (
 And.intro @kE (
 And.intro @kI (
 And.intro @kJ (
 And.intro @kM (
 And.intro @kK (
 And.intro @kO (
 And.intro @kP (
 And.intro @kS (
 And.intro @kQ (
 And.intro @kU (
 And.intro @kV (
 And.intro @kY (
 And.intro @kW (
 And.intro @kb (
 And.intro @kc (
 And.intro @kf (
 And.intro @kd (
 And.intro @ki (
 And.intro @kj (
 And.intro @ko (
 And.intro @kk (
 And.intro @kq (
 And.intro @kr (
 And.intro @ku (
 And.intro @ks (
 And.intro @W4 (
 And.intro @W5 (
 And.intro @W8 (
 And.intro @W6 (
 And.intro @WA (
 And.intro @WB (
 And.intro @WE (
 And.intro @WC (
 And.intro @WG (
 And.intro @WH (
 And.intro @WK (
 And.intro @WI (
 And.intro @WN (
 And.intro @WO (
 And.intro @WS (
 And.intro @WP (
 And.intro @WU (
 And.intro @WV (
 And.intro @WY (
 And.intro @WW (
 And.intro @Wa (
 And.intro @Wb (
 And.intro @We (
 And.intro @Wc (
 And.intro @Wg (
 And.intro @Wh (
 And.intro @Wk (
 And.intro @Wi (
 And.intro @Wm (
 And.intro @Wn (
 And.intro @Wq (
 And.intro @Wo (
 And.intro @Wr (
 And.intro @Ws (
 And.intro @Wv (
 And.intro @Wt (
 And.intro @Wx (
 And.intro @Wy (
 And.intro @X1 (
 And.intro @Wz (
 And.intro @X4 (
 And.intro @X5 (
 And.intro @X8 (
 And.intro @X6 (
 And.intro @XA (
 And.intro @XB (
 And.intro @XE (
 And.intro @XC (
 And.intro @XG (
 And.intro @XH (
 And.intro @XK (
 And.intro @XI (
 And.intro @XM (
 And.intro @XN (
 And.intro @XQ (
 And.intro @XO (
 And.intro @XS (
 And.intro @XT (
 And.intro @XW (
 And.intro @XU (
 And.intro @XY (
 And.intro @XZ (
 And.intro @Xc (
 And.intro @Xa (
 And.intro @Xe (
 And.intro @Xf (
 And.intro @Xi (
 And.intro @Xg (
 And.intro @jT (
 And.intro @jf (
 And.intro @jl (
 And.intro @jr (
 And.intro @k9 (
 And.intro @kF (
 And.intro @ke (
 And.intro @kt (
 And.intro @WJ (
 And.intro @Wj (
 And.intro @Wu (
 And.intro @Tm (
 And.intro @Tn (
 And.intro @To (
 And.intro @Tp (
 And.intro @Tq (
 And.intro @Tr (
 And.intro @Ts (
 And.intro @vV (
 And.intro @vd (
 And.intro @vj (
 And.intro @jJ (
 And.intro @jO (
 And.intro @jZ (
 And.intro @jy (
 And.intro @kL (
 And.intro @kR (
 And.intro @kX (
 And.intro @kl (
 And.intro @W7 (
 And.intro @WD (
 And.intro @WQ (
 And.intro @WX (
 And.intro @Wd (
 And.intro @Wp (
 And.intro @X0 (
 And.intro @X7 (
 And.intro @XD (
 And.intro @XJ (
 And.intro @XP (
 And.intro @XV (
 And.intro @Xb (
 And.intro @Xh (
 And.intro @x5 (
 And.intro @x6 (
 And.intro @x7 (
 And.intro @x8 (
 And.intro @x9 (
 And.intro @xA (
 And.intro @xB (
 And.intro @kv (
 And.intro @kw (
 And.intro @kx (
 And.intro @ky (
 And.intro @kz (
 And.intro @l3 (
 And.intro @l4 (
 And.intro @l5 (
 And.intro @l6 (
 And.intro @l7 (
 And.intro @l8 (
 And.intro @l9 (
 And.intro @lA (
 And.intro @lB (
 And.intro @lC (
 And.intro @lD (
 And.intro @lE (
 And.intro @lF (
 And.intro @lG (
 And.intro @lH (
 And.intro @lI (
 And.intro @lJ (
 And.intro @lK (
 And.intro @lL (
 And.intro @lM (
 And.intro @lN (
 And.intro @lO (
 And.intro @lP (
 And.intro @lQ (
 And.intro @lR (
 And.intro @lS (
 And.intro @lT (
 And.intro @lU (
 And.intro @lV (
 And.intro @lW (
 And.intro @lX (
 And.intro @lY (
 And.intro @lZ (
 And.intro @la (
 And.intro @ld (
 And.intro @lf (
 And.intro @lg (
 And.intro @lh (
 And.intro @li (
 And.intro @lj (
 And.intro @lk (
 And.intro @ll (
 And.intro @lm (
 And.intro @ln (
 And.intro @lp (
 And.intro @lq (
 And.intro @lr (
 And.intro @lu (
 And.intro @lw (
 And.intro @lx (
 And.intro @ly (
 And.intro @lz (
 And.intro @mA (
 And.intro @mB (
 And.intro @mC (
 And.intro @mD (
 And.intro @mE (
 And.intro @mF (
 And.intro @mG (
 And.intro @mH (
 And.intro @mI (
 And.intro @mJ (
 And.intro @mK (
 And.intro @mL (
 And.intro @mM (
 And.intro @mN (
 And.intro @mO (
 And.intro @mP (
 And.intro @mQ (
 And.intro @mR (
 And.intro @mS (
 And.intro @mT (
 And.intro @mU (
 And.intro @mV (
 And.intro @bY (
 And.intro @mW (
 And.intro @mX (
 And.intro @mY (
 And.intro @mZ (
 And.intro @ma (
 And.intro @mb (
 And.intro @mc (
 And.intro @md (
 And.intro @me (
 And.intro @mf (
 And.intro @Xj (
 And.intro @Xk (
 And.intro @Xl (
 And.intro @Xm (
 And.intro @Xn (
 And.intro @Xo (
 And.intro @Xp (
 And.intro @Xq (
 And.intro @Xr (
 And.intro @Xs (
 And.intro @Xt (
 And.intro @Xu (
 And.intro @Xv (
 And.intro @Xw (
 And.intro @Xx (
 And.intro @Xy (
 And.intro @Xz (
 And.intro @Y1 (
 And.intro @Y2 (
 And.intro @Y3 (
 And.intro @Y4 (
 And.intro @Y5 (
 And.intro @Y6 (
 And.intro @Y7 (
 And.intro @Y8 (
 And.intro @Y9 (
 And.intro @YA (
 And.intro @YB (
 And.intro @YC (
 And.intro @YD (
 And.intro @YE (
 And.intro @YF (
 And.intro @YG (
 And.intro @YH (
 And.intro @YI (
 And.intro @YJ (
 And.intro @YK (
 And.intro @YL (
 And.intro @YM (
 And.intro @YN (
 And.intro @Tv (
 And.intro @YO (
 And.intro @YP (
 And.intro @YQ (
 And.intro @YR (
 And.intro @YS (
 And.intro @YT (
 And.intro @YU (
 And.intro @YV (
 And.intro @YW (
 And.intro @YX (
 And.intro @YY (
 And.intro @YZ (
 And.intro @Ya (
 And.intro @Yb (
 And.intro @Yc (
 And.intro @Yd (
 And.intro @Ye (
 And.intro @Yf (
 And.intro @Yg (
 And.intro @Yh (
 And.intro @Yi (
 And.intro @Yj (
 And.intro @Yk (
 And.intro @Yl (
 And.intro @Ym (
 And.intro @Yn (
 And.intro @Yo (
 And.intro @Yp (
 And.intro @Yq (
 And.intro @Yr (
 And.intro @Ys (
 And.intro @Yt (
 And.intro @Yu (
 And.intro @Yv (
 And.intro @Yw (
 And.intro @Yx (
 And.intro @Yy (
 And.intro @Yz (
 And.intro @Z0 (
 And.intro @Z1 (
 And.intro @Z2 (
 And.intro @Z3 (
 And.intro @Z4 (
 And.intro @Z5 (
 And.intro @Z6 (
 And.intro @Z7 (@Z8)))))))))))))))))))))))))))))))))))))))))))))))))))))))))))))))))))))))))))))))))))))))))))))))))))))))))))))))))))))))))))))))))))))))))))))))))))))))))))))))))))))))))))))))))))))))))))))))))))))))))))))))))))))))))))))))))))))))))))))))))))))))))))))))))))))))))))))))))))))))))))))))))))))))))))))))))))))))))))))))))))))))))))))))))))))))))))))))))))))))))))))))))))))))))))))))))))))))))))))))))))))))))))
def Tw:SC:=
 .seq
 (.ops [
 ⟨(some 2),(.assign (.const (.slice none 0 0))),23,none⟩])
 (.seq
 (.seq
 (.ops [
 ⟨(some 3),(.move (.tmp 0)),23,none⟩,
 ⟨(some 4),(.binOp .eql 23 (.tmp 3) (.const (.slice none 0 0)) 23),4,none⟩])
 (.cond (.tmp 4)
 (.seq
 (.ops [
 ⟨(some 2),(.assign (.const (.slice none 0 0))),23,none⟩])
 .ret)
 .skip))
 (.seq
 (.ops [
 ⟨(some 5),(.buildSlice 23 0 #[]),23,none⟩,
 ⟨(some 6),(.move (.tmp 0)),23,none⟩,
 ⟨(some 7),(.call ⟨(.builtin .append), #[(.tmp 5),(.tmp 6)], #[23,23]⟩),23,none⟩,
 ⟨(some 2),(.assign (.tmp 7)),23,none⟩])
 .ret))
theorem Qv:Try.f104.body.map (BZ lends)=some Tw:=by kernel_rfl
theorem Z9:CD Try.f104 1=true:=by kernel_rfl
theorem QJ(A:Option Addr)(c:Nat):Y0.call 104 [.konst (.slice A 0 c)] []=some (.own 3 [],[]):=by
 refine AN (Y:=Y0) rfl Try.func104 Z9 Qv ?_
 show Bw Y0.env Tw (Ew AE 0 [ResultVar.tmp 2] _) _
 unfold Tw
 cases A<;>simp only [↓A9,A5,mg,implies_true,Option.bind_some,Option.map_some,Option.isSome_some,↓reduceIte,Nat.reduceEqDiff,Nat.reduceLT,Nat.reduceLeDiff,Nat.reduceAdd,Nat.reduceMul,Nat.reduceMod,Nat.reduceSub,List.contains_cons,List.contains_nil,Nat.reduceBEq,List.getD_cons_zero,List.getD_cons_succ,List.getD_nil,List.length_cons,List.length_nil,List.size_toArray,List.toList_toArray,List.zip_cons_cons,List.zip_nil_left,List.append_nil,List.nil_append,List.cons_append,List.map_cons,List.map_nil,List.replicate_succ,List.replicate_zero,List.set_cons_zero,List.set_cons_succ,List.set_set,List.all_cons,List.any_cons,List.any_nil,List.all_nil,List.getElem?_cons_zero,List.getElem?_cons_succ,List.getElem?_nil,List.range_zero,beq_self_eq_true,Int.reduceLE,Int.reduceLT,Int.reduceEq,Int.reduceSub,Int.reduceAdd,Int.reduceToNat,Int.reduceNeg,Option.isNone_none,Option.isNone_some]
theorem Vd:Dv.Good Try.prog AE 104 [.sl 3 []] [] (.own 3 []) []:=Px tT (fun A c=>Dv.Sys.call_good tU (QJ A c))
def Tx(f:FuncId)(a l:List D):Option (D×List D):=
 match f,a,l with
 | 104,[.sl 3 []],[]=>some (.own 3 [],[])
 | _,_,_=>none
theorem Ve: ∀f a l r outs,Tx f a l=some (r,outs)→Dv.Good Try.prog AE f a l r outs:=by
 intro f a l r outs h
 unfold Tx at h
 split at h
 ·simp only [Option.some.injEq,Prod.mk.injEq]at h;obtain⟨rfl,rfl⟩:=h;exact Vd
 ·cases h
theorem Tz: ∀zs:List Int,zs.length<4611686018427387904→Dv.Good Try.prog AE 120 [.vw [100000] 0 0] [.own 3 (B8 zs)] (.tup []) [.own 3 (B8 (Dx zs))]:=fun zs h=>
 Ru ⟨Try.f120,Try.func120,rfl,by decide⟩ nI (fun blk off cap zs w h1 h2 h3=>Try.slices_Sort_int blk off cap zs w h1 h2 h3) (fun p cap w=>Try.slices_Sort_int_none p cap w) zs h
theorem QK: ∀zs:List Int,zs.length<1099511627776→Dv.Good Try.prog AE 98 [.clo 129 [.cptr [.sl 3 (B8 zs)]]] [] (.own 3 (B8 (Dx zs))) []:=fun zs h=>
 Oe ⟨Try.f98,Try.func98,rfl,by decide⟩ nI
  (fun p ad cap w h1 h2=>callsIn_wide.1 (Go.Proofs.sv.sorted_in 5 (Nat.le_refl _) p _ [] (by decide) (by decide) w h1 h2 (.inl ⟨ad,cap,rfl,rfl⟩)))
  (fun p b off cap zs w h0 h1 h2 h3 h4=>callsIn_wide.1 (Go.Proofs.sv.sorted_in 5 (Nat.le_refl _) p _ zs (by have:maxLen=9223372036854775807:=rfl;omega) (by omega) w h1 h2 (.inr ⟨b,off,cap,rfl,h3,h4⟩))) zs h
noncomputable def Y:Dv.Sys:={P:=Try.prog,T:=AE,lends:=lends,base:=IQ (IQ Tx (Gh 120 3)) (F3 98 129 3)}
theorem yOk:Dv.Sys.Ok Y:=⟨bZ,mixed,Iu (Iu Ve (L9 Tz)) (J8 QK)⟩
theorem U0:AE.ty 900013= .other:=nr rfl
theorem yT:Y.T=AE:=nr rfl
theorem yL:Y.lends=lends:=nr rfl
set_option maxRecDepth 10000 in
set_option linter.defProp false in
def AA:=
 And.intro @U0 (
 And.intro @yT (
 And.intro @yL (
 And.intro @tV (
 And.intro @tW (
 And.intro @tX (
 And.intro @nH (
 And.intro @vW (
 And.intro @vf (
 And.intro @bW (
 And.intro @Vc (
 And.intro @bX (
 And.intro @jV (
 And.intro @jb (
 And.intro @jh (
 And.intro @jn (
 And.intro @ju (
 And.intro @k5 (
 And.intro @kB (
 And.intro @kH (
 And.intro @kN (
 And.intro @kT (
 And.intro @kZ (
 And.intro @kg (
 And.intro @kp (
 And.intro @Tt (
 And.intro @W9 (
 And.intro @WF (
 And.intro @WL (
 And.intro @WM (
 And.intro @WT (
 And.intro @WZ (
 And.intro @Wf (
 And.intro @Wl (
 And.intro @Tu (
 And.intro @Ww (
 And.intro @X2 (
 And.intro @X3 (
 And.intro @X9 (
 And.intro @XF (
 And.intro @XL (
 And.intro @XR (
 And.intro @XX (
 And.intro @Xd (
 And.intro @tT (
 And.intro @vT (
 And.intro @nI (
 And.intro @vU (
 And.intro @vX (
 And.intro @vY (
 And.intro @ve (
 And.intro @vZ (
 And.intro @vg (
 And.intro @vh (
 And.intro @vk (
 And.intro @vi (
 And.intro @jG (
 And.intro @jH (
 And.intro @jK (
 And.intro @jI (
 And.intro @jL (
 And.intro @jM (
 And.intro @jP (
 And.intro @jN (
 And.intro @jQ (
 And.intro @jR (
 And.intro @jU (
 And.intro @jS (
 And.intro @jW (
 And.intro @jX (
 And.intro @ja (
 And.intro @jY (
 And.intro @jc (
 And.intro @jd (
 And.intro @jg (
 And.intro @je (
 And.intro @ji (
 And.intro @jj (
 And.intro @jm (
 And.intro @jk (
 And.intro @jo (
 And.intro @jp (
 And.intro @jt (
 And.intro @jq (
 And.intro @jv (
 And.intro @jw (
 And.intro @jz (
 And.intro @jx (
 And.intro @k6 (
 And.intro @k7 (
 And.intro @kA (
 And.intro @k8 (
 And.intro @kC (
 And.intro @kD (
 And.intro @kG (
 And.intro @kE (
 And.intro @kI (
 And.intro @kJ (
 And.intro @kM (
 And.intro @kK (
 And.intro @kO (
 And.intro @kP (
 And.intro @kS (
 And.intro @kQ (
 And.intro @kU (
 And.intro @kV (
 And.intro @kY (
 And.intro @kW (
 And.intro @kb (
 And.intro @kc (
 And.intro @kf (
 And.intro @kd (
 And.intro @ki (
 And.intro @kj (
 And.intro @ko (
 And.intro @kk (
 And.intro @kq (
 And.intro @kr (
 And.intro @ku (
 And.intro @ks (
 And.intro @W4 (
 And.intro @W5 (
 And.intro @W8 (
 And.intro @W6 (
 And.intro @WA (
 And.intro @WB (
 And.intro @WE (
 And.intro @WC (
 And.intro @WG (
 And.intro @WH (
 And.intro @WK (
 And.intro @WI (
 And.intro @WN (
 And.intro @WO (
 And.intro @WS (
 And.intro @WP (
 And.intro @WU (
 And.intro @WV (
 And.intro @WY (
 And.intro @WW (
 And.intro @Wa (
 And.intro @Wb (
 And.intro @We (
 And.intro @Wc (
 And.intro @Wg (
 And.intro @Wh (
 And.intro @Wk (
 And.intro @Wi (
 And.intro @Wm (
 And.intro @Wn (
 And.intro @Wq (
 And.intro @Wo (
 And.intro @Wr (
 And.intro @Ws (
 And.intro @Wv (
 And.intro @Wt (
 And.intro @Wx (
 And.intro @Wy (
 And.intro @X1 (
 And.intro @Wz (
 And.intro @X4 (
 And.intro @X5 (
 And.intro @X8 (
 And.intro @X6 (
 And.intro @XA (
 And.intro @XB (
 And.intro @XE (
 And.intro @XC (
 And.intro @XG (
 And.intro @XH (
 And.intro @XK (
 And.intro @XI (
 And.intro @XM (
 And.intro @XN (
 And.intro @XQ (
 And.intro @XO (
 And.intro @XS (
 And.intro @XT (
 And.intro @XW (
 And.intro @XU (
 And.intro @XY (
 And.intro @XZ (
 And.intro @Xc (
 And.intro @Xa (
 And.intro @Xe (
 And.intro @Xf (
 And.intro @Xi (
 And.intro @Xg (
 And.intro @jT (
 And.intro @jf (
 And.intro @jl (
 And.intro @jr (
 And.intro @k9 (
 And.intro @kF (
 And.intro @ke (
 And.intro @kt (
 And.intro @WJ (
 And.intro @Wj (
 And.intro @Wu (
 And.intro @Tm (
 And.intro @Tn (
 And.intro @To (
 And.intro @Tp (
 And.intro @Tq (
 And.intro @Tr (
 And.intro @Ts (
 And.intro @vV (
 And.intro @vd (
 And.intro @vj (
 And.intro @jJ (
 And.intro @jO (
 And.intro @jZ (
 And.intro @jy (
 And.intro @kL (
 And.intro @kR (
 And.intro @kX (
 And.intro @kl (
 And.intro @W7 (
 And.intro @WD (
 And.intro @WQ (
 And.intro @WX (
 And.intro @Wd (
 And.intro @Wp (
 And.intro @X0 (
 And.intro @X7 (
 And.intro @XD (
 And.intro @XJ (
 And.intro @XP (
 And.intro @XV (
 And.intro @Xb (
 And.intro @Xh (
 And.intro @x5 (
 And.intro @x6 (
 And.intro @x7 (
 And.intro @x8 (
 And.intro @x9 (
 And.intro @xA (
 And.intro @xB (
 And.intro @kv (
 And.intro @kw (
 And.intro @kx (
 And.intro @ky (
 And.intro @kz (
 And.intro @l3 (
 And.intro @l4 (
 And.intro @l5 (
 And.intro @l6 (
 And.intro @l7 (
 And.intro @l8 (
 And.intro @l9 (
 And.intro @lA (
 And.intro @lB (
 And.intro @lC (
 And.intro @lD (
 And.intro @lE (
 And.intro @lF (
 And.intro @lG (
 And.intro @lH (
 And.intro @lI (
 And.intro @lJ (
 And.intro @lK (
 And.intro @lL (
 And.intro @lM (
 And.intro @lN (
 And.intro @lO (
 And.intro @lP (
 And.intro @lQ (
 And.intro @lR (
 And.intro @lS (
 And.intro @lT (
 And.intro @lU (
 And.intro @lV (
 And.intro @lW (
 And.intro @lX (
 And.intro @lY (
 And.intro @lZ (
 And.intro @la (
 And.intro @ld (
 And.intro @lf (
 And.intro @lg (
 And.intro @lh (
 And.intro @li (
 And.intro @lj (
 And.intro @lk (
 And.intro @ll (
 And.intro @lm (
 And.intro @ln (
 And.intro @lp (
 And.intro @lq (
 And.intro @lr (
 And.intro @lu (
 And.intro @lw (
 And.intro @lx (
 And.intro @ly (
 And.intro @lz (
 And.intro @mA (
 And.intro @mB (
 And.intro @mC (
 And.intro @mD (
 And.intro @mE (
 And.intro @mF (
 And.intro @mG (
 And.intro @mH (
 And.intro @mI (
 And.intro @mJ (
 And.intro @mK (
 And.intro @mL (
 And.intro @mM (
 And.intro @mN (
 And.intro @mO (
 And.intro @mP (
 And.intro @mQ (
 And.intro @mR (
 And.intro @mS (
 And.intro @mT (
 And.intro @mU (
 And.intro @mV (
 And.intro @bY (
 And.intro @mW (
 And.intro @mX (
 And.intro @mY (
 And.intro @mZ (
 And.intro @ma (
 And.intro @mb (
 And.intro @mc (
 And.intro @md (
 And.intro @me (
 And.intro @mf (
 And.intro @Xj (
 And.intro @Xk (
 And.intro @Xl (
 And.intro @Xm (
 And.intro @Xn (
 And.intro @Xo (
 And.intro @Xp (
 And.intro @Xq (
 And.intro @Xr (
 And.intro @Xs (
 And.intro @Xt (
 And.intro @Xu (
 And.intro @Xv (
 And.intro @Xw (
 And.intro @Xx (
 And.intro @Xy (
 And.intro @Xz (
 And.intro @Y1 (
 And.intro @Y2 (
 And.intro @Y3 (
 And.intro @Y4 (
 And.intro @Y5 (
 And.intro @Y6 (
 And.intro @Y7 (
 And.intro @Y8 (
 And.intro @Y9 (
 And.intro @YA (
 And.intro @YB (
 And.intro @YC (
 And.intro @YD (
 And.intro @YE (
 And.intro @YF (
 And.intro @YG (
 And.intro @YH (
 And.intro @YI (
 And.intro @YJ (
 And.intro @YK (
 And.intro @YL (
 And.intro @YM (
 And.intro @YN (
 And.intro @Tv (
 And.intro @YO (
 And.intro @YP (
 And.intro @YQ (
 And.intro @YR (
 And.intro @YS (
 And.intro @YT (
 And.intro @YU (
 And.intro @YV (
 And.intro @YW (
 And.intro @YX (
 And.intro @YY (
 And.intro @YZ (
 And.intro @Ya (
 And.intro @Yb (
 And.intro @Yc (
 And.intro @Yd (
 And.intro @Ye (
 And.intro @Yf (
 And.intro @Yg (
 And.intro @Yh (
 And.intro @Yi (
 And.intro @Yj (
 And.intro @Yk (
 And.intro @Yl (
 And.intro @Ym (
 And.intro @Yn (
 And.intro @Yo (
 And.intro @Yp (
 And.intro @Yq (
 And.intro @Yr (
 And.intro @Ys (
 And.intro @Yt (
 And.intro @Yu (
 And.intro @Yv (
 And.intro @Yw (
 And.intro @Yx (
 And.intro @Yy (
 And.intro @Yz (
 And.intro @Z0 (
 And.intro @Z1 (
 And.intro @Z2 (
 And.intro @Z3 (
 And.intro @Z4 (
 And.intro @Z5 (
 And.intro @Z6 (
 And.intro @Z7 (@Z8)))))))))))))))))))))))))))))))))))))))))))))))))))))))))))))))))))))))))))))))))))))))))))))))))))))))))))))))))))))))))))))))))))))))))))))))))))))))))))))))))))))))))))))))))))))))))))))))))))))))))))))))))))))))))))))))))))))))))))))))))))))))))))))))))))))))))))))))))))))))))))))))))))))))))))))))))))))))))))))))))))))))))))))))))))))))))))))))))))))))))))))))))))))))))))))))))))))))))))))))))))))))))))))))
theorem ci(zs:List Int)(h:zs.length<1099511627776):Y.call 98 [.clo 129 [.cptr [.sl 3 (A8 (D.int .i64) zs)]]] []=some (.own 3 (A8 (D.int .i64) (Dx zs)),[]):=Dv.Sys.call_base ((LA 98 129 3 zs h))
theorem U1(zs:List Int)(h:zs.length<4611686018427387904):Y.call 120 [.vw [100000] 0 0] [.own 3 (A8 (D.int .i64) zs)]=some (.tup [],[.own 3 (A8 (D.int .i64) (Dx zs))]):=Dv.Sys.call_base (Of<|(Oc 120 3 zs h))
theorem Rw(xs:List D)(h:xs.length<1099511627776)(hs:xs.all Ai=true)(ho:AC xs=false)(hf:(BX (.own 3 xs)).isSome=true):Y.call 104 [.sl 3 xs] []=some (.own 3 xs,[]):=by
 cases xs with
 | nil=>exact Dv.Sys.call_base rfl
 | cons x xs=>
  refine AN (Y:=Y) rfl Try.func104 Z9 Qv ?_
  show Bw Y.env Tw (Ew AE 0 [ResultVar.tmp 2] _) _
  unfold Tw
  have h0:0+(x::xs).length<1099511627776:=by omega
  simp only [List.length_cons,Nat.zero_add]at h0
  simp only [List.all_cons,Qo]at hs ho
  simp only [↓A9,A5,AA,implies_true,Option.bind_some,Option.map_some,Option.isSome_some,↓reduceIte,Nat.reduceEqDiff,Nat.reduceLT,Nat.reduceLeDiff,Nat.reduceAdd,Nat.reduceMul,Nat.reduceMod,Nat.reduceSub,List.contains_cons,List.contains_nil,Nat.reduceBEq,List.getD_cons_zero,List.getD_cons_succ,List.getD_nil,List.length_cons,List.length_nil,List.size_toArray,List.toList_toArray,List.zip_cons_cons,List.zip_nil_left,List.append_nil,List.nil_append,List.cons_append,List.map_cons,List.map_nil,List.replicate_succ,List.replicate_zero,List.set_cons_zero,List.set_cons_succ,List.set_set,List.all_cons,List.any_cons,List.any_nil,List.all_nil,List.getElem?_cons_zero,List.getElem?_cons_succ,List.getElem?_nil,List.range_zero,beq_self_eq_true,Int.reduceLE,Int.reduceLT,Int.reduceEq,Int.reduceSub,Int.reduceAdd,Int.reduceToNat,Int.reduceNeg,Nat.zero_add,h0,hs,ho]
  simp only [TD,JL]at hf
  rw [if_pos hf]
end Go.Proofs.Ytjjahjjhohcidaa
