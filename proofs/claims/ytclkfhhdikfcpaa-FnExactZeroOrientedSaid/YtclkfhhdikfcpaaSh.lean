/- The shelf's contract of sorting numbers in place, at this seat. Conditions: those in each lemma. -/
import Derived.Shelf.Sort.Plain
import Derived.Shelf.Slices.In.SortNone
import Derived.Shelf.Spec.SlicesGrow
import Derived.Test.YtclkfhhdikfcpaaProg
namespace Go.Proofs
open Go.Shelf
def Try.lays189_ren:Go.Shelf.Ren:=⟨fun|189=>152|125=>174|257=>173|128=>188|129=>189|294=>180|295=>181|296=>182|297=>183|298=>184|299=>185|216=>169|300=>186|301=>187|328=>191|329=>192|330=>193|331=>194|332=>195|215=>179|343=>196|n=>n,fun|28=>26|3=>3|46=>110|0=>0|51=>151|53=>154|4=>4|183=>181|182=>180|131=>51|5=>5|9=>9|218=>187|222=>191|228=>193|229=>194|n=>n,fun|n=>n⟩
theorem Try.lays189:Go.Proofs.Lays.n189 Try.prog Try.lays189_ren:={
  mixed:=by kernel_rfl
  f125:=Try.func174.trans (congrArg some (by kernel_rfl))
  f128:=Try.func188.trans (congrArg some (by kernel_rfl))
  f129:=Try.func189.trans (congrArg some (by kernel_rfl))
  f189:=Try.func152.trans (congrArg some (by kernel_rfl))
  f215:=Try.func179.trans (congrArg some (by kernel_rfl))
  f216:=Try.func169.trans (congrArg some (by kernel_rfl))
  f257:=Try.func173.trans (congrArg some (by kernel_rfl))
  f294:=Try.func180.trans (congrArg some (by kernel_rfl))
  f295:=Try.func181.trans (congrArg some (by kernel_rfl))
  f296:=Try.func182.trans (congrArg some (by kernel_rfl))
  f297:=Try.func183.trans (congrArg some (by kernel_rfl))
  f298:=Try.func184.trans (congrArg some (by kernel_rfl))
  f299:=Try.func185.trans (congrArg some (by kernel_rfl))
  f300:=Try.func186.trans (congrArg some (by kernel_rfl))
  f301:=Try.func187.trans (congrArg some (by kernel_rfl))
  f328:=Try.func191.trans (congrArg some (by kernel_rfl))
  f329:=Try.func192.trans (congrArg some (by kernel_rfl))
  f330:=Try.func193.trans (congrArg some (by kernel_rfl))
  f331:=Try.func194.trans (congrArg some (by kernel_rfl))
  f332:=Try.func195.trans (congrArg some (by kernel_rfl))
  f343:=Try.func196.trans (congrArg some (by kernel_rfl))
  t0:=Try.underlying0
  a0:=Try.isAgg0
  z0:=Try.sizeOf0
  v0:=Try.zeroValue0
  t3:=Try.underlying3
  a3:=Try.isAgg3
  z3:=Try.sizeOf3
  v3:=Try.zeroValue3
  t4:=Try.underlying4
  a4:=Try.isAgg4
  z4:=Try.sizeOf4
  v4:=Try.zeroValue4
  t5:=Try.underlying5
  a5:=Try.isAgg5
  z5:=Try.sizeOf5
  v5:=Try.zeroValue5
  t9:=Try.underlying9
  a9:=Try.isAgg9
  z9:=Try.sizeOf9
  v9:=Try.zeroValue9
  t28:=Try.underlying26
  a28:=Try.isAgg26
  z28:=Try.sizeOf26
  v28:=Try.zeroValue26
  t46:=Try.underlying110
  a46:=Try.isAgg110
  z46:=Try.sizeOf110
  v46:=Try.zeroValue110
  t51:=Try.underlying151
  a51:=Try.isAgg151
  z51:=Try.sizeOf151
  v51:=Try.zeroValue151
  t53:=Try.underlying154
  a53:=Try.isAgg154
  z53:=Try.sizeOf154
  v53:=Try.zeroValue154
  t131:=Try.underlying51
  a131:=Try.isAgg51
  z131:=Try.sizeOf51
  v131:=Try.zeroValue51
  t182:=Try.underlying180
  a182:=Try.isAgg180
  z182:=Try.sizeOf180
  v182:=Try.zeroValue180
  t183:=Try.underlying181
  a183:=Try.isAgg181
  z183:=Try.sizeOf181
  v183:=Try.zeroValue181
  t218:=Try.underlying187
  a218:=Try.isAgg187
  z218:=Try.sizeOf187
  v218:=Try.zeroValue187
  t222:=Try.underlying191
  a222:=Try.isAgg191
  z222:=Try.sizeOf191
  v222:=Try.zeroValue191
  t228:=Try.underlying193
  a228:=Try.isAgg193
  z228:=Try.sizeOf193
  v228:=Try.zeroValue193
  t229:=Try.underlying194
  a229:=Try.isAgg194
  z229:=Try.sizeOf194
  v229:=Try.zeroValue194}
open Go.Sort Go.RowKit in
theorem Try.slices_Sort_int(blk off cap:Nat)(zs:List Int)(w:World)(hH:Holds (Value.int .i64) w blk off zs.toArray)(hblk:blk<w.heap.size)(hsz:zs.length<4611686018427387904):
    Calls Try.prog 152 #[.slice (some ⟨blk,off,none⟩) zs.length cap] w fun e w'=>
      e= .returned (.tuple #[])∧ ∃n os,w'=grow (putRow (Value.int .i64) (Sort.ahead w n) blk off (zs.mergeSort fun x y=>decide (x≤y)).toArray) os:=Any.slices_Sort_int Try.lays189 blk off cap zs w hH hblk hsz
open Go.RowKit Go.Sort in
theorem Try.slices_Sort_int_none(p:Option Addr)(cap:Nat)(w:World):
    Calls Try.prog 152 #[.slice p 0 cap] w fun e w'=>e= .returned (.tuple #[])∧w'=w:=Any.slices_Sort_int_none Try.lays189 p cap w
def Try.laysGrow100_ren:Go.Shelf.Ren:=⟨fun|4=>100|n=>n,fun|22=>22|25=>26|3=>3|4=>4|9=>9|20=>20|0=>0|n=>n,fun|n=>n⟩
theorem Try.laysGrow100:Go.Proofs.Lays8.n4 Try.prog Try.laysGrow100_ren:={
  mixed:=by kernel_rfl
  f4:=⟨Try.f100.name,by decide,Try.func100.trans (congrArg some (by kernel_rfl))⟩
  t0:=Try.underlying0
  a0:=Try.isAgg0
  z0:=Try.sizeOf0
  v0:=Try.zeroValue0
  t3:=Try.underlying3
  a3:=Try.isAgg3
  z3:=Try.sizeOf3
  v3:=Try.zeroValue3
  t4:=Try.underlying4
  a4:=Try.isAgg4
  z4:=Try.sizeOf4
  v4:=Try.zeroValue4
  t9:=Try.underlying9
  a9:=Try.isAgg9
  z9:=Try.sizeOf9
  v9:=Try.zeroValue9
  t20:=Try.underlying20
  a20:=Try.isAgg20
  z20:=Try.sizeOf20
  v20:=Try.zeroValue20
  t22:=Try.underlying22
  a22:=Try.isAgg22
  z22:=Try.sizeOf22
  v22:=Try.zeroValue22}
end Go.Proofs
