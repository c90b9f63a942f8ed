/- The shelf's contract of sorting numbers in place, at this seat. Conditions: those in each lemma. -/
import Derived.Shelf.Sort.Plain
import Derived.Shelf.Slices.In.SortNone
import Derived.Test.YtipfckompmhljaaGreatProg
namespace Go.Proofs
open Go.Shelf
def Tryz.lays189_ren:Go.Shelf.Ren:=⟨fun | 189=>76 | 125=>89 | 257=>88 | 128=>106 | 129=>107 | 294=>98 | 295=>99 | 296=>100 | 297=>101 | 298=>102 | 299=>103 | 216=>83 | 300=>104 | 301=>105 | 328=>111 | 329=>112 | 330=>113 | 331=>114 | 332=>115 | 215=>93 | 343=>117 | n=>n,fun | 28=>26 | 3=>3 | 46=>87 | 0=>0 | 51=>97 | 53=>100 | 4=>4 | 183=>120 | 182=>119 | 131=>112 | 5=>5 | 9=>9 | 218=>126 | 222=>130 | 228=>133 | 229=>134 | n=>n,fun | n=>n⟩
theorem Tryz.lays189:Go.Proofs.Lays.n189 Tryz.prog Tryz.lays189_ren:={
  mixed:=by kernel_rfl
  f125:=Tryz.func89.trans (congrArg some (by kernel_rfl))
  f128:=Tryz.func106.trans (congrArg some (by kernel_rfl))
  f129:=Tryz.func107.trans (congrArg some (by kernel_rfl))
  f189:=Tryz.func76.trans (congrArg some (by kernel_rfl))
  f215:=Tryz.func93.trans (congrArg some (by kernel_rfl))
  f216:=Tryz.func83.trans (congrArg some (by kernel_rfl))
  f257:=Tryz.func88.trans (congrArg some (by kernel_rfl))
  f294:=Tryz.func98.trans (congrArg some (by kernel_rfl))
  f295:=Tryz.func99.trans (congrArg some (by kernel_rfl))
  f296:=Tryz.func100.trans (congrArg some (by kernel_rfl))
  f297:=Tryz.func101.trans (congrArg some (by kernel_rfl))
  f298:=Tryz.func102.trans (congrArg some (by kernel_rfl))
  f299:=Tryz.func103.trans (congrArg some (by kernel_rfl))
  f300:=Tryz.func104.trans (congrArg some (by kernel_rfl))
  f301:=Tryz.func105.trans (congrArg some (by kernel_rfl))
  f328:=Tryz.func111.trans (congrArg some (by kernel_rfl))
  f329:=Tryz.func112.trans (congrArg some (by kernel_rfl))
  f330:=Tryz.func113.trans (congrArg some (by kernel_rfl))
  f331:=Tryz.func114.trans (congrArg some (by kernel_rfl))
  f332:=Tryz.func115.trans (congrArg some (by kernel_rfl))
  f343:=Tryz.func117.trans (congrArg some (by kernel_rfl))
  t0:=Tryz.underlying0
  a0:=Tryz.isAgg0
  z0:=Tryz.sizeOf0
  v0:=Tryz.zeroValue0
  t3:=Tryz.underlying3
  a3:=Tryz.isAgg3
  z3:=Tryz.sizeOf3
  v3:=Tryz.zeroValue3
  t4:=Tryz.underlying4
  a4:=Tryz.isAgg4
  z4:=Tryz.sizeOf4
  v4:=Tryz.zeroValue4
  t5:=Tryz.underlying5
  a5:=Tryz.isAgg5
  z5:=Tryz.sizeOf5
  v5:=Tryz.zeroValue5
  t9:=Tryz.underlying9
  a9:=Tryz.isAgg9
  z9:=Tryz.sizeOf9
  v9:=Tryz.zeroValue9
  t28:=Tryz.underlying26
  a28:=Tryz.isAgg26
  z28:=Tryz.sizeOf26
  v28:=Tryz.zeroValue26
  t46:=Tryz.underlying87
  a46:=Tryz.isAgg87
  z46:=Tryz.sizeOf87
  v46:=Tryz.zeroValue87
  t51:=Tryz.underlying97
  a51:=Tryz.isAgg97
  z51:=Tryz.sizeOf97
  v51:=Tryz.zeroValue97
  t53:=Tryz.underlying100
  a53:=Tryz.isAgg100
  z53:=Tryz.sizeOf100
  v53:=Tryz.zeroValue100
  t131:=Tryz.underlying112
  a131:=Tryz.isAgg112
  z131:=Tryz.sizeOf112
  v131:=Tryz.zeroValue112
  t182:=Tryz.underlying119
  a182:=Tryz.isAgg119
  z182:=Tryz.sizeOf119
  v182:=Tryz.zeroValue119
  t183:=Tryz.underlying120
  a183:=Tryz.isAgg120
  z183:=Tryz.sizeOf120
  v183:=Tryz.zeroValue120
  t218:=Tryz.underlying126
  a218:=Tryz.isAgg126
  z218:=Tryz.sizeOf126
  v218:=Tryz.zeroValue126
  t222:=Tryz.underlying130
  a222:=Tryz.isAgg130
  z222:=Tryz.sizeOf130
  v222:=Tryz.zeroValue130
  t228:=Tryz.underlying133
  a228:=Tryz.isAgg133
  z228:=Tryz.sizeOf133
  v228:=Tryz.zeroValue133
  t229:=Tryz.underlying134
  a229:=Tryz.isAgg134
  z229:=Tryz.sizeOf134
  v229:=Tryz.zeroValue134}
open Go.Sort Go.RowKit in
theorem Tryz.slices_Sort_int(blk off cap:Nat)(zs:List Int)(w:World)(hH:Holds (Value.int .i64) w blk off zs.toArray)(hblk:blk<w.heap.size)(hsz:zs.length<4611686018427387904):
    Calls Tryz.prog 76 #[.slice (some ⟨blk,off,none⟩) zs.length cap] w fun e w'=>
      e= .returned (.tuple #[])∧ ∃n os,w'=grow (putRow (Value.int .i64) (Sort.ahead w n) blk off (zs.mergeSort fun x y=>decide (x≤y)).toArray) os:=Any.slices_Sort_int Tryz.lays189 blk off cap zs w hH hblk hsz
open Go.RowKit Go.Sort in
theorem Tryz.slices_Sort_int_none(p:Option Addr)(cap:Nat)(w:World):
    Calls Tryz.prog 76 #[.slice p 0 cap] w fun e w'=>e= .returned (.tuple #[])∧w'=w:=Any.slices_Sort_int_none Tryz.lays189 p cap w
end Go.Proofs
