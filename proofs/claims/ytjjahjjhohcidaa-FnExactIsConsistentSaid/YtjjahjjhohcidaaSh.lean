/- The shelf's contract of sorting numbers in place, at this seat. Conditions: those in each lemma. -/
import Derived.Shelf.Sort.Plain
import Derived.Shelf.Slices.In.SortNone
import Derived.Test.YtjjahjjhohcidaaProg
namespace Go.Proofs
open Go.Shelf
def Try.lays189_ren:Go.Shelf.Ren:=⟨fun | 189=>120 | 125=>139 | 257=>138 | 128=>157 | 129=>158 | 294=>148 | 295=>149 | 296=>150 | 297=>151 | 298=>152 | 299=>153 | 216=>154 | 300=>155 | 301=>156 | 328=>161 | 329=>162 | 330=>163 | 331=>164 | 332=>165 | 215=>166 | 343=>167 | n=>n,fun | 28=>23 | 3=>3 | 46=>148 | 0=>0 | 51=>161 | 53=>163 | 4=>4 | 183=>156 | 182=>155 | 131=>52 | 5=>5 | 9=>9 | 218=>165 | 222=>169 | 228=>171 | 229=>172 | n=>n,fun | n=>n⟩
theorem Try.lays189:Go.Proofs.Lays.n189 Try.prog Try.lays189_ren:={
  mixed:=by kernel_rfl
  f125:=Try.func139.trans (congrArg some (by kernel_rfl))
  f128:=Try.func157.trans (congrArg some (by kernel_rfl))
  f129:=Try.func158.trans (congrArg some (by kernel_rfl))
  f189:=Try.func120.trans (congrArg some (by kernel_rfl))
  f215:=Try.func166.trans (congrArg some (by kernel_rfl))
  f216:=Try.func154.trans (congrArg some (by kernel_rfl))
  f257:=Try.func138.trans (congrArg some (by kernel_rfl))
  f294:=Try.func148.trans (congrArg some (by kernel_rfl))
  f295:=Try.func149.trans (congrArg some (by kernel_rfl))
  f296:=Try.func150.trans (congrArg some (by kernel_rfl))
  f297:=Try.func151.trans (congrArg some (by kernel_rfl))
  f298:=Try.func152.trans (congrArg some (by kernel_rfl))
  f299:=Try.func153.trans (congrArg some (by kernel_rfl))
  f300:=Try.func155.trans (congrArg some (by kernel_rfl))
  f301:=Try.func156.trans (congrArg some (by kernel_rfl))
  f328:=Try.func161.trans (congrArg some (by kernel_rfl))
  f329:=Try.func162.trans (congrArg some (by kernel_rfl))
  f330:=Try.func163.trans (congrArg some (by kernel_rfl))
  f331:=Try.func164.trans (congrArg some (by kernel_rfl))
  f332:=Try.func165.trans (congrArg some (by kernel_rfl))
  f343:=Try.func167.trans (congrArg some (by kernel_rfl))
  t0:=Try.underlying0
  a0:=Try.isAgg0
  z0:=Try.sizeOf0
  v0:=Try.zeroValue0
  t3:=Try.underlying3
  a3:=Try.isAgg3
  z3:=Try.sizeOf3
  v3:=Try.zeroValue3
  t4:=Try.underlying4
  a4:=Try.isAgg4
  z4:=Try.sizeOf4
  v4:=Try.zeroValue4
  t5:=Try.underlying5
  a5:=Try.isAgg5
  z5:=Try.sizeOf5
  v5:=Try.zeroValue5
  t9:=Try.underlying9
  a9:=Try.isAgg9
  z9:=Try.sizeOf9
  v9:=Try.zeroValue9
  t28:=Try.underlying23
  a28:=Try.isAgg23
  z28:=Try.sizeOf23
  v28:=Try.zeroValue23
  t46:=Try.underlying148
  a46:=Try.isAgg148
  z46:=Try.sizeOf148
  v46:=Try.zeroValue148
  t51:=Try.underlying161
  a51:=Try.isAgg161
  z51:=Try.sizeOf161
  v51:=Try.zeroValue161
  t53:=Try.underlying163
  a53:=Try.isAgg163
  z53:=Try.sizeOf163
  v53:=Try.zeroValue163
  t131:=Try.underlying52
  a131:=Try.isAgg52
  z131:=Try.sizeOf52
  v131:=Try.zeroValue52
  t182:=Try.underlying155
  a182:=Try.isAgg155
  z182:=Try.sizeOf155
  v182:=Try.zeroValue155
  t183:=Try.underlying156
  a183:=Try.isAgg156
  z183:=Try.sizeOf156
  v183:=Try.zeroValue156
  t218:=Try.underlying165
  a218:=Try.isAgg165
  z218:=Try.sizeOf165
  v218:=Try.zeroValue165
  t222:=Try.underlying169
  a222:=Try.isAgg169
  z222:=Try.sizeOf169
  v222:=Try.zeroValue169
  t228:=Try.underlying171
  a228:=Try.isAgg171
  z228:=Try.sizeOf171
  v228:=Try.zeroValue171
  t229:=Try.underlying172
  a229:=Try.isAgg172
  z229:=Try.sizeOf172
  v229:=Try.zeroValue172}
open Go.Sort Go.RowKit in
theorem Try.slices_Sort_int(blk off cap:Nat)(zs:List Int)(w:World)(hH:Holds (Value.int .i64) w blk off zs.toArray)(hblk:blk<w.heap.size)(hsz:zs.length<4611686018427387904):
    Calls Try.prog 120 #[.slice (some ⟨blk,off,none⟩) zs.length cap] w fun e w'=>
      e= .returned (.tuple #[])∧ ∃n os,w'=grow (putRow (Value.int .i64) (Sort.ahead w n) blk off (zs.mergeSort fun x y=>decide (x≤y)).toArray) os:=Any.slices_Sort_int Try.lays189 blk off cap zs w hH hblk hsz
open Go.RowKit Go.Sort in
theorem Try.slices_Sort_int_none(p:Option Addr)(cap:Nat)(w:World):
    Calls Try.prog 120 #[.slice p 0 cap] w fun e w'=>e= .returned (.tuple #[])∧w'=w:=Any.slices_Sort_int_none Try.lays189 p cap w
end Go.Proofs
