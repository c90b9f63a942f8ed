/- The shelf's contract of sorting numbers in place, at this seat. Conditions: those in each lemma. -/
import Derived.Shelf.Sort.Plain
import Derived.Shelf.Slices.In.SortNone
import Derived.Test.YtiehjihckndgkaaGreatProg
namespace Go.Proofs
open Go.Shelf
def Tryz.lays189_ren:Go.Shelf.Ren:=⟨fun|189=>100|125=>128|257=>127|128=>150|129=>151|294=>142|295=>143|296=>144|297=>145|298=>146|299=>147|216=>125|300=>148|301=>149|328=>157|329=>158|330=>159|331=>160|332=>161|215=>141|343=>163|n=>n,fun|28=>26|3=>3|46=>82|0=>0|51=>132|53=>135|4=>4|183=>147|182=>146|131=>54|5=>5|9=>9|218=>157|222=>161|228=>164|229=>165|n=>n,fun|n=>n⟩
theorem Tryz.lays189:Go.Proofs.Lays.n189 Tryz.prog Tryz.lays189_ren:={
  mixed:=by kernel_rfl
  f125:=Tryz.func128.trans (congrArg some (by kernel_rfl))
  f128:=Tryz.func150.trans (congrArg some (by kernel_rfl))
  f129:=Tryz.func151.trans (congrArg some (by kernel_rfl))
  f189:=Tryz.func100.trans (congrArg some (by kernel_rfl))
  f215:=Tryz.func141.trans (congrArg some (by kernel_rfl))
  f216:=Tryz.func125.trans (congrArg some (by kernel_rfl))
  f257:=Tryz.func127.trans (congrArg some (by kernel_rfl))
  f294:=Tryz.func142.trans (congrArg some (by kernel_rfl))
  f295:=Tryz.func143.trans (congrArg some (by kernel_rfl))
  f296:=Tryz.func144.trans (congrArg some (by kernel_rfl))
  f297:=Tryz.func145.trans (congrArg some (by kernel_rfl))
  f298:=Tryz.func146.trans (congrArg some (by kernel_rfl))
  f299:=Tryz.func147.trans (congrArg some (by kernel_rfl))
  f300:=Tryz.func148.trans (congrArg some (by kernel_rfl))
  f301:=Tryz.func149.trans (congrArg some (by kernel_rfl))
  f328:=Tryz.func157.trans (congrArg some (by kernel_rfl))
  f329:=Tryz.func158.trans (congrArg some (by kernel_rfl))
  f330:=Tryz.func159.trans (congrArg some (by kernel_rfl))
  f331:=Tryz.func160.trans (congrArg some (by kernel_rfl))
  f332:=Tryz.func161.trans (congrArg some (by kernel_rfl))
  f343:=Tryz.func163.trans (congrArg some (by kernel_rfl))
  t0:=Tryz.underlying0
  a0:=Tryz.isAgg0
  z0:=Tryz.sizeOf0
  v0:=Tryz.zeroValue0
  t3:=Tryz.underlying3
  a3:=Tryz.isAgg3
  z3:=Tryz.sizeOf3
  v3:=Tryz.zeroValue3
  t4:=Tryz.underlying4
  a4:=Tryz.isAgg4
  z4:=Tryz.sizeOf4
  v4:=Tryz.zeroValue4
  t5:=Tryz.underlying5
  a5:=Tryz.isAgg5
  z5:=Tryz.sizeOf5
  v5:=Tryz.zeroValue5
  t9:=Tryz.underlying9
  a9:=Tryz.isAgg9
  z9:=Tryz.sizeOf9
  v9:=Tryz.zeroValue9
  t28:=Tryz.underlying26
  a28:=Tryz.isAgg26
  z28:=Tryz.sizeOf26
  v28:=Tryz.zeroValue26
  t46:=Tryz.underlying82
  a46:=Tryz.isAgg82
  z46:=Tryz.sizeOf82
  v46:=Tryz.zeroValue82
  t51:=Tryz.underlying132
  a51:=Tryz.isAgg132
  z51:=Tryz.sizeOf132
  v51:=Tryz.zeroValue132
  t53:=Tryz.underlying135
  a53:=Tryz.isAgg135
  z53:=Tryz.sizeOf135
  v53:=Tryz.zeroValue135
  t131:=Tryz.underlying54
  a131:=Tryz.isAgg54
  z131:=Tryz.sizeOf54
  v131:=Tryz.zeroValue54
  t182:=Tryz.underlying146
  a182:=Tryz.isAgg146
  z182:=Tryz.sizeOf146
  v182:=Tryz.zeroValue146
  t183:=Tryz.underlying147
  a183:=Tryz.isAgg147
  z183:=Tryz.sizeOf147
  v183:=Tryz.zeroValue147
  t218:=Tryz.underlying157
  a218:=Tryz.isAgg157
  z218:=Tryz.sizeOf157
  v218:=Tryz.zeroValue157
  t222:=Tryz.underlying161
  a222:=Tryz.isAgg161
  z222:=Tryz.sizeOf161
  v222:=Tryz.zeroValue161
  t228:=Tryz.underlying164
  a228:=Tryz.isAgg164
  z228:=Tryz.sizeOf164
  v228:=Tryz.zeroValue164
  t229:=Tryz.underlying165
  a229:=Tryz.isAgg165
  z229:=Tryz.sizeOf165
  v229:=Tryz.zeroValue165}
open Go.Sort Go.RowKit in
theorem Tryz.slices_Sort_int(blk off cap:Nat)(zs:List Int)(w:World)(hH:Holds (Value.int .i64) w blk off zs.toArray)(hblk:blk<w.heap.size)(hsz:zs.length<4611686018427387904):
    Calls Tryz.prog 100 #[.slice (some ⟨blk,off,none⟩) zs.length cap] w fun e w'=>
      e= .returned (.tuple #[])∧ ∃n os,w'=grow (putRow (Value.int .i64) (Sort.ahead w n) blk off (zs.mergeSort fun x y=>decide (x≤y)).toArray) os:=Any.slices_Sort_int Tryz.lays189 blk off cap zs w hH hblk hsz
open Go.RowKit Go.Sort in
theorem Tryz.slices_Sort_int_none(p:Option Addr)(cap:Nat)(w:World):
    Calls Tryz.prog 100 #[.slice p 0 cap] w fun e w'=>e= .returned (.tuple #[])∧w'=w:=Any.slices_Sort_int_none Tryz.lays189 p cap w
end Go.Proofs
