/- The shelf's contract of sorting numbers in place, at this seat. Conditions: those in each lemma. -/
import Derived.Shelf.Sort.Plain
import Derived.Shelf.Slices.In.SortNone
import Derived.Shelf.Slices.Delete
import Derived.Shelf.Spec.SlicesGrow
import Derived.Test.YtjhjkfoabhplfaaGreatProg
namespace Go.Proofs
open Go.Shelf
def Tryz.lays189_ren:Go.Shelf.Ren:=⟨fun|189=>68|125=>100|257=>99|128=>121|129=>122|294=>113|295=>114|296=>115|297=>116|298=>117|299=>118|216=>93|300=>119|301=>120|328=>127|329=>128|330=>129|331=>130|332=>131|215=>111|343=>142|n=>n,fun|28=>27|3=>3|46=>91|0=>0|51=>106|53=>108|4=>4|183=>101|182=>100|131=>72|5=>5|9=>9|218=>115|222=>119|228=>126|229=>127|n=>n,fun|n=>n⟩
theorem Tryz.lays189:Go.Proofs.Lays.n189 Tryz.prog Tryz.lays189_ren:={
  mixed:=by kernel_rfl
  f125:=Tryz.func100.trans (congrArg some (by kernel_rfl))
  f128:=Tryz.func121.trans (congrArg some (by kernel_rfl))
  f129:=Tryz.func122.trans (congrArg some (by kernel_rfl))
  f189:=Tryz.func68.trans (congrArg some (by kernel_rfl))
  f215:=Tryz.func111.trans (congrArg some (by kernel_rfl))
  f216:=Tryz.func93.trans (congrArg some (by kernel_rfl))
  f257:=Tryz.func99.trans (congrArg some (by kernel_rfl))
  f294:=Tryz.func113.trans (congrArg some (by kernel_rfl))
  f295:=Tryz.func114.trans (congrArg some (by kernel_rfl))
  f296:=Tryz.func115.trans (congrArg some (by kernel_rfl))
  f297:=Tryz.func116.trans (congrArg some (by kernel_rfl))
  f298:=Tryz.func117.trans (congrArg some (by kernel_rfl))
  f299:=Tryz.func118.trans (congrArg some (by kernel_rfl))
  f300:=Tryz.func119.trans (congrArg some (by kernel_rfl))
  f301:=Tryz.func120.trans (congrArg some (by kernel_rfl))
  f328:=Tryz.func127.trans (congrArg some (by kernel_rfl))
  f329:=Tryz.func128.trans (congrArg some (by kernel_rfl))
  f330:=Tryz.func129.trans (congrArg some (by kernel_rfl))
  f331:=Tryz.func130.trans (congrArg some (by kernel_rfl))
  f332:=Tryz.func131.trans (congrArg some (by kernel_rfl))
  f343:=Tryz.func142.trans (congrArg some (by kernel_rfl))
  t0:=Tryz.underlying0
  a0:=Tryz.isAgg0
  z0:=Tryz.sizeOf0
  v0:=Tryz.zeroValue0
  t3:=Tryz.underlying3
  a3:=Tryz.isAgg3
  z3:=Tryz.sizeOf3
  v3:=Tryz.zeroValue3
  t4:=Tryz.underlying4
  a4:=Tryz.isAgg4
  z4:=Tryz.sizeOf4
  v4:=Tryz.zeroValue4
  t5:=Tryz.underlying5
  a5:=Tryz.isAgg5
  z5:=Tryz.sizeOf5
  v5:=Tryz.zeroValue5
  t9:=Tryz.underlying9
  a9:=Tryz.isAgg9
  z9:=Tryz.sizeOf9
  v9:=Tryz.zeroValue9
  t28:=Tryz.underlying27
  a28:=Tryz.isAgg27
  z28:=Tryz.sizeOf27
  v28:=Tryz.zeroValue27
  t46:=Tryz.underlying91
  a46:=Tryz.isAgg91
  z46:=Tryz.sizeOf91
  v46:=Tryz.zeroValue91
  t51:=Tryz.underlying106
  a51:=Tryz.isAgg106
  z51:=Tryz.sizeOf106
  v51:=Tryz.zeroValue106
  t53:=Tryz.underlying108
  a53:=Tryz.isAgg108
  z53:=Tryz.sizeOf108
  v53:=Tryz.zeroValue108
  t131:=Tryz.underlying72
  a131:=Tryz.isAgg72
  z131:=Tryz.sizeOf72
  v131:=Tryz.zeroValue72
  t182:=Tryz.underlying100
  a182:=Tryz.isAgg100
  z182:=Tryz.sizeOf100
  v182:=Tryz.zeroValue100
  t183:=Tryz.underlying101
  a183:=Tryz.isAgg101
  z183:=Tryz.sizeOf101
  v183:=Tryz.zeroValue101
  t218:=Tryz.underlying115
  a218:=Tryz.isAgg115
  z218:=Tryz.sizeOf115
  v218:=Tryz.zeroValue115
  t222:=Tryz.underlying119
  a222:=Tryz.isAgg119
  z222:=Tryz.sizeOf119
  v222:=Tryz.zeroValue119
  t228:=Tryz.underlying126
  a228:=Tryz.isAgg126
  z228:=Tryz.sizeOf126
  v228:=Tryz.zeroValue126
  t229:=Tryz.underlying127
  a229:=Tryz.isAgg127
  z229:=Tryz.sizeOf127
  v229:=Tryz.zeroValue127}
open Go.Sort Go.RowKit in
theorem Tryz.slices_Sort_int(blk off cap:Nat)(zs:List Int)(w:World)(hH:Holds (Value.int .i64) w blk off zs.toArray)(hblk:blk<w.heap.size)(hsz:zs.length<4611686018427387904):
    Calls Tryz.prog 68 #[.slice (some ⟨blk,off,none⟩) zs.length cap] w fun e w'=>
      e= .returned (.tuple #[])∧ ∃n os,w'=grow (putRow (Value.int .i64) (Sort.ahead w n) blk off (zs.mergeSort fun x y=>decide (x≤y)).toArray) os:=Any.slices_Sort_int Tryz.lays189 blk off cap zs w hH hblk hsz
def Tryz.laysNm223_ren:Go.Shelf.Ren:=⟨fun|23=>110|n=>n,fun|22=>27|3=>3|4=>4|0=>0|n=>n,fun|n=>n⟩
theorem Tryz.laysNm223:Go.Proofs.Lays2.n23 Tryz.prog Tryz.laysNm223_ren:={
  mixed:=by kernel_rfl
  f23:=Tryz.func110.trans (congrArg some (by kernel_rfl))
  t0:=Tryz.underlying0
  a0:=Tryz.isAgg0
  z0:=Tryz.sizeOf0
  v0:=Tryz.zeroValue0
  t3:=Tryz.underlying3
  a3:=Tryz.isAgg3
  z3:=Tryz.sizeOf3
  v3:=Tryz.zeroValue3
  t4:=Tryz.underlying4
  a4:=Tryz.isAgg4
  z4:=Tryz.sizeOf4
  v4:=Tryz.zeroValue4
  t22:=Tryz.underlying27
  a22:=Tryz.isAgg27
  z22:=Tryz.sizeOf27
  v22:=Tryz.zeroValue27
  i3:=by kernel_rfl}
open Go.RowKit Go.Lib Go.Sort in
theorem Tryz.slices_Delete_int(blk off cap i j:Nat)(zs:List Int)(w:World)(hH:Holds (Value.int .i64) w blk off zs.toArray)(hcap:zs.length≤cap)(hm:cap≤9223372036854775807)(hij:i≤j)(hj:j≤zs.length):
    Calls Tryz.prog 110 #[.slice (some ⟨blk,off,none⟩) zs.length cap,.int .i64 i,.int .i64 j] w fun e w'=>e= .returned (.slice (some ⟨blk,off,none⟩) (zs.length-(j-i)) cap)∧ ∃q,w'=putRow (Value.int .i64) (Sort.ahead w q) blk off (zs.take i++zs.drop j++List.replicate (j-i) 0).toArray:=Any.slices_Delete_int Tryz.laysNm223 blk off cap i j zs w hH hcap hm hij hj
open Go.RowKit Go.Sort in
theorem Tryz.slices_Sort_int_none(p:Option Addr)(cap:Nat)(w:World):
    Calls Tryz.prog 68 #[.slice p 0 cap] w fun e w'=>e= .returned (.tuple #[])∧w'=w:=Any.slices_Sort_int_none Tryz.lays189 p cap w
def Tryz.laysGrow98_ren:Go.Shelf.Ren:=⟨fun|4=>98|n=>n,fun|22=>27|25=>3|3=>3|4=>4|9=>9|20=>20|0=>0|n=>n,fun|n=>n⟩
theorem Tryz.laysGrow98:Go.Proofs.Lays8.n4 Tryz.prog Tryz.laysGrow98_ren:={
  mixed:=by kernel_rfl
  f4:=⟨Tryz.f98.name,by decide,Tryz.func98.trans (congrArg some (by kernel_rfl))⟩
  t0:=Tryz.underlying0
  a0:=Tryz.isAgg0
  z0:=Tryz.sizeOf0
  v0:=Tryz.zeroValue0
  t3:=Tryz.underlying3
  a3:=Tryz.isAgg3
  z3:=Tryz.sizeOf3
  v3:=Tryz.zeroValue3
  t4:=Tryz.underlying4
  a4:=Tryz.isAgg4
  z4:=Tryz.sizeOf4
  v4:=Tryz.zeroValue4
  t9:=Tryz.underlying9
  a9:=Tryz.isAgg9
  z9:=Tryz.sizeOf9
  v9:=Tryz.zeroValue9
  t20:=Tryz.underlying20
  a20:=Tryz.isAgg20
  z20:=Tryz.sizeOf20
  v20:=Tryz.zeroValue20
  t22:=Tryz.underlying27
  a22:=Tryz.isAgg27
  z22:=Tryz.sizeOf27
  v22:=Tryz.zeroValue27}
end Go.Proofs
