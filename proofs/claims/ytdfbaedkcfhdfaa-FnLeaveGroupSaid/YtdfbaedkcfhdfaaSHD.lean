import Derived.Test.YtdfbaedkcfhdfaaTy
import Derived.Shelf.Sort.Plain
namespace Go.Proofs
open Go.Shelf
def Try.lays189_ren : Go.Shelf.Ren:=⟨fun|189=>64|125=>115|257=>114|128=>165|129=>166|294=>156|295=>157|296=>158|297=>159|298=>160|299=>161|216=>162|300=>163|301=>164|328=>183|329=>184|330=>185|331=>186|332=>187|215=>188|343=>192|n=>n,fun|28=>88|3=>3|46=>151|0=>0|51=>191|53=>193|4=>4|183=>184|182=>183|131=>188|5=>5|9=>9|218=>213|222=>217|228=>221|229=>222|n=>n,fun|n=>n⟩
theorem Try.lays189 : Go.Proofs.Lays.n189 Try.prog Try.lays189_ren:={
  mixed:=by kernel_rfl
  f125:=Try.func115.trans (congrArg some (by kernel_rfl))
  f128:=Try.func165.trans (congrArg some (by kernel_rfl))
  f129:=Try.func166.trans (congrArg some (by kernel_rfl))
  f189:=Try.func64.trans (congrArg some (by kernel_rfl))
  f215:=Try.func188.trans (congrArg some (by kernel_rfl))
  f216:=Try.func162.trans (congrArg some (by kernel_rfl))
  f257:=Try.func114.trans (congrArg some (by kernel_rfl))
  f294:=Try.func156.trans (congrArg some (by kernel_rfl))
  f295:=Try.func157.trans (congrArg some (by kernel_rfl))
  f296:=Try.func158.trans (congrArg some (by kernel_rfl))
  f297:=Try.func159.trans (congrArg some (by kernel_rfl))
  f298:=Try.func160.trans (congrArg some (by kernel_rfl))
  f299:=Try.func161.trans (congrArg some (by kernel_rfl))
  f300:=Try.func163.trans (congrArg some (by kernel_rfl))
  f301:=Try.func164.trans (congrArg some (by kernel_rfl))
  f328:=Try.func183.trans (congrArg some (by kernel_rfl))
  f329:=Try.func184.trans (congrArg some (by kernel_rfl))
  f330:=Try.func185.trans (congrArg some (by kernel_rfl))
  f331:=Try.func186.trans (congrArg some (by kernel_rfl))
  f332:=Try.func187.trans (congrArg some (by kernel_rfl))
  f343:=Try.func192.trans (congrArg some (by kernel_rfl))
  t0:=Try.underlying0
  a0:=Try.isAgg0
  z0:=Try.sizeOf0
  v0:=Try.zeroValue0
  t3:=Try.underlying3
  a3:=Try.isAgg3
  z3:=Try.sizeOf3
  v3:=Try.zeroValue3
  t4:=Try.underlying4
  a4:=Try.isAgg4
  z4:=Try.sizeOf4
  v4:=Try.zeroValue4
  t5:=Try.underlying5
  a5:=Try.isAgg5
  z5:=Try.sizeOf5
  v5:=Try.zeroValue5
  t9:=Try.underlying9
  a9:=Try.isAgg9
  z9:=Try.sizeOf9
  v9:=Try.zeroValue9
  t28:=Try.underlying88
  a28:=Try.isAgg88
  z28:=Try.sizeOf88
  v28:=Try.zeroValue88
  t46:=Try.underlying151
  a46:=Try.isAgg151
  z46:=Try.sizeOf151
  v46:=Try.zeroValue151
  t51:=Try.underlying191
  a51:=Try.isAgg191
  z51:=Try.sizeOf191
  v51:=Try.zeroValue191
  t53:=Try.underlying193
  a53:=Try.isAgg193
  z53:=Try.sizeOf193
  v53:=Try.zeroValue193
  t131:=Try.underlying188
  a131:=Try.isAgg188
  z131:=Try.sizeOf188
  v131:=Try.zeroValue188
  t182:=Try.underlying183
  a182:=Try.isAgg183
  z182:=Try.sizeOf183
  v182:=Try.zeroValue183
  t183:=Try.underlying184
  a183:=Try.isAgg184
  z183:=Try.sizeOf184
  v183:=Try.zeroValue184
  t218:=Try.underlying213
  a218:=Try.isAgg213
  z218:=Try.sizeOf213
  v218:=Try.zeroValue213
  t222:=Try.underlying217
  a222:=Try.isAgg217
  z222:=Try.sizeOf217
  v222:=Try.zeroValue217
  t228:=Try.underlying221
  a228:=Try.isAgg221
  z228:=Try.sizeOf221
  v228:=Try.zeroValue221
  t229:=Try.underlying222
  a229:=Try.isAgg222
  z229:=Try.sizeOf222
  v229:=Try.zeroValue222 }
open Go.Sort Go.RowKit in
theorem Try.slices_Sort_int (blk off cap : Nat) (zs : List Int) (w : World) (hH : Holds (Value.int .i64) w blk off zs.toArray) (hblk : blk < w.heap.size) (hsz : zs.length < 4611686018427387904) :
    Calls Try.prog 64 #[.slice (some ⟨blk,off,none⟩) zs.length cap] w fun e w' =>
      e = .returned (.tuple #[]) ∧ ∃ n os,w' = grow (putRow (Value.int .i64) (Sort.ahead w n) blk off (zs.mergeSort fun x y=>decide (x ≤ y)).toArray) os:=Any.slices_Sort_int Try.lays189 blk off cap zs w hH hblk hsz
end Go.Proofs
