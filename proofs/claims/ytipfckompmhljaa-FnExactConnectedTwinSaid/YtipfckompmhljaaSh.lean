/- The shelf's contract of sorting numbers in place, at this seat. Conditions: those in each lemma. -/
import Derived.Shelf.Sort.Plain
import Derived.Shelf.Slices.In.SortNone
import Derived.Shelf.Spec.SlicesGrow
import Derived.Test.YtipfckompmhljaaProg
namespace Go.Proofs
open Go.Shelf
def Try.lays189_ren:Go.Shelf.Ren:=⟨fun | 189=>127 | 125=>154 | 257=>153 | 128=>174 | 129=>175 | 294=>166 | 295=>167 | 296=>168 | 297=>169 | 298=>170 | 299=>171 | 216=>157 | 300=>172 | 301=>173 | 328=>180 | 329=>181 | 330=>182 | 331=>183 | 332=>184 | 215=>176 | 343=>188 | n=>n,fun | 28=>23 | 3=>3 | 46=>129 | 0=>0 | 51=>157 | 53=>160 | 4=>4 | 183=>179 | 182=>178 | 131=>168 | 5=>5 | 9=>9 | 218=>186 | 222=>190 | 228=>193 | 229=>194 | n=>n,fun | n=>n⟩
theorem Try.lays189:Go.Proofs.Lays.n189 Try.prog Try.lays189_ren:={
  mixed:=by kernel_rfl
  f125:=Try.func154.trans (congrArg some (by kernel_rfl))
  f128:=Try.func174.trans (congrArg some (by kernel_rfl))
  f129:=Try.func175.trans (congrArg some (by kernel_rfl))
  f189:=Try.func127.trans (congrArg some (by kernel_rfl))
  f215:=Try.func176.trans (congrArg some (by kernel_rfl))
  f216:=Try.func157.trans (congrArg some (by kernel_rfl))
  f257:=Try.func153.trans (congrArg some (by kernel_rfl))
  f294:=Try.func166.trans (congrArg some (by kernel_rfl))
  f295:=Try.func167.trans (congrArg some (by kernel_rfl))
  f296:=Try.func168.trans (congrArg some (by kernel_rfl))
  f297:=Try.func169.trans (congrArg some (by kernel_rfl))
  f298:=Try.func170.trans (congrArg some (by kernel_rfl))
  f299:=Try.func171.trans (congrArg some (by kernel_rfl))
  f300:=Try.func172.trans (congrArg some (by kernel_rfl))
  f301:=Try.func173.trans (congrArg some (by kernel_rfl))
  f328:=Try.func180.trans (congrArg some (by kernel_rfl))
  f329:=Try.func181.trans (congrArg some (by kernel_rfl))
  f330:=Try.func182.trans (congrArg some (by kernel_rfl))
  f331:=Try.func183.trans (congrArg some (by kernel_rfl))
  f332:=Try.func184.trans (congrArg some (by kernel_rfl))
  f343:=Try.func188.trans (congrArg some (by kernel_rfl))
  t0:=Try.underlying0
  a0:=Try.isAgg0
  z0:=Try.sizeOf0
  v0:=Try.zeroValue0
  t3:=Try.underlying3
  a3:=Try.isAgg3
  z3:=Try.sizeOf3
  v3:=Try.zeroValue3
  t4:=Try.underlying4
  a4:=Try.isAgg4
  z4:=Try.sizeOf4
  v4:=Try.zeroValue4
  t5:=Try.underlying5
  a5:=Try.isAgg5
  z5:=Try.sizeOf5
  v5:=Try.zeroValue5
  t9:=Try.underlying9
  a9:=Try.isAgg9
  z9:=Try.sizeOf9
  v9:=Try.zeroValue9
  t28:=Try.underlying23
  a28:=Try.isAgg23
  z28:=Try.sizeOf23
  v28:=Try.zeroValue23
  t46:=Try.underlying129
  a46:=Try.isAgg129
  z46:=Try.sizeOf129
  v46:=Try.zeroValue129
  t51:=Try.underlying157
  a51:=Try.isAgg157
  z51:=Try.sizeOf157
  v51:=Try.zeroValue157
  t53:=Try.underlying160
  a53:=Try.isAgg160
  z53:=Try.sizeOf160
  v53:=Try.zeroValue160
  t131:=Try.underlying168
  a131:=Try.isAgg168
  z131:=Try.sizeOf168
  v131:=Try.zeroValue168
  t182:=Try.underlying178
  a182:=Try.isAgg178
  z182:=Try.sizeOf178
  v182:=Try.zeroValue178
  t183:=Try.underlying179
  a183:=Try.isAgg179
  z183:=Try.sizeOf179
  v183:=Try.zeroValue179
  t218:=Try.underlying186
  a218:=Try.isAgg186
  z218:=Try.sizeOf186
  v218:=Try.zeroValue186
  t222:=Try.underlying190
  a222:=Try.isAgg190
  z222:=Try.sizeOf190
  v222:=Try.zeroValue190
  t228:=Try.underlying193
  a228:=Try.isAgg193
  z228:=Try.sizeOf193
  v228:=Try.zeroValue193
  t229:=Try.underlying194
  a229:=Try.isAgg194
  z229:=Try.sizeOf194
  v229:=Try.zeroValue194}
open Go.Sort Go.RowKit in
theorem Try.slices_Sort_int(blk off cap:Nat)(zs:List Int)(w:World)(hH:Holds (Value.int .i64) w blk off zs.toArray)(hblk:blk<w.heap.size)(hsz:zs.length<4611686018427387904):
    Calls Try.prog 127 #[.slice (some ⟨blk,off,none⟩) zs.length cap] w fun e w'=>
      e= .returned (.tuple #[])∧ ∃n os,w'=grow (putRow (Value.int .i64) (Sort.ahead w n) blk off (zs.mergeSort fun x y=>decide (x≤y)).toArray) os:=Any.slices_Sort_int Try.lays189 blk off cap zs w hH hblk hsz
open Go.RowKit Go.Sort in
theorem Try.slices_Sort_int_none(p:Option Addr)(cap:Nat)(w:World):
    Calls Try.prog 127 #[.slice p 0 cap] w fun e w'=>e= .returned (.tuple #[])∧w'=w:=Any.slices_Sort_int_none Try.lays189 p cap w
def Try.laysGrow119_ren:Go.Shelf.Ren:=⟨fun | 4=>119 | n=>n,fun | 22=>44 | 25=>23 | 3=>3 | 4=>4 | 9=>9 | 20=>20 | 0=>0 | n=>n,fun | n=>n⟩
theorem Try.laysGrow119:Go.Proofs.Lays8.n4 Try.prog Try.laysGrow119_ren:={
  mixed:=by kernel_rfl
  f4:=⟨Try.f119.name,by decide,Try.func119.trans (congrArg some (by kernel_rfl))⟩
  t0:=Try.underlying0
  a0:=Try.isAgg0
  z0:=Try.sizeOf0
  v0:=Try.zeroValue0
  t3:=Try.underlying3
  a3:=Try.isAgg3
  z3:=Try.sizeOf3
  v3:=Try.zeroValue3
  t4:=Try.underlying4
  a4:=Try.isAgg4
  z4:=Try.sizeOf4
  v4:=Try.zeroValue4
  t9:=Try.underlying9
  a9:=Try.isAgg9
  z9:=Try.sizeOf9
  v9:=Try.zeroValue9
  t20:=Try.underlying20
  a20:=Try.isAgg20
  z20:=Try.sizeOf20
  v20:=Try.zeroValue20
  t22:=Try.underlying44
  a22:=Try.isAgg44
  z22:=Try.sizeOf44
  v22:=Try.zeroValue44}
end Go.Proofs
