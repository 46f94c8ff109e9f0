/- A part of the proof. -/
import Derived.Test.YtdebkglpapjeiaaRows
import Derived.Shelf.Sort.Plain
import Derived.Shelf.Slices.CompactI
import Derived.Shelf.Slices.In.SortNone
set_option linter.all false
namespace Go.Proofs
open Go.Shelf
def Try.lays189_ren:Go.Shelf.Ren:=⟨fun | 189=>97 | 125=>109 | 257=>108 | 128=>121 | 129=>122 | 294=>112 | 295=>113 | 296=>114 | 297=>115 | 298=>116 | 299=>117 | 216=>118 | 300=>119 | 301=>120 | 328=>123 | 329=>124 | 330=>125 | 331=>126 | 332=>127 | 215=>128 | 343=>129 | n=>n,fun | 28=>44 | 3=>3 | 46=>109 | 0=>0 | 51=>124 | 53=>126 | 4=>4 | 183=>117 | 182=>116 | 131=>79 | 5=>5 | 9=>9 | 218=>127 | 222=>131 | 228=>133 | 229=>134 | n=>n,fun | n=>n⟩
theorem Try.lays189:Go.Proofs.Lays.n189 Try.prog Try.lays189_ren := {
 mixed:=by kernel_rfl
 f125:=Try.func109.trans (congrArg some (by kernel_rfl))
 f128:=Try.func121.trans (congrArg some (by kernel_rfl))
 f129:=Try.func122.trans (congrArg some (by kernel_rfl))
 f189:=Try.func97.trans (congrArg some (by kernel_rfl))
 f215:=Try.func128.trans (congrArg some (by kernel_rfl))
 f216:=Try.func118.trans (congrArg some (by kernel_rfl))
 f257:=Try.func108.trans (congrArg some (by kernel_rfl))
 f294:=Try.func112.trans (congrArg some (by kernel_rfl))
 f295:=Try.func113.trans (congrArg some (by kernel_rfl))
 f296:=Try.func114.trans (congrArg some (by kernel_rfl))
 f297:=Try.func115.trans (congrArg some (by kernel_rfl))
 f298:=Try.func116.trans (congrArg some (by kernel_rfl))
 f299:=Try.func117.trans (congrArg some (by kernel_rfl))
 f300:=Try.func119.trans (congrArg some (by kernel_rfl))
 f301:=Try.func120.trans (congrArg some (by kernel_rfl))
 f328:=Try.func123.trans (congrArg some (by kernel_rfl))
 f329:=Try.func124.trans (congrArg some (by kernel_rfl))
 f330:=Try.func125.trans (congrArg some (by kernel_rfl))
 f331:=Try.func126.trans (congrArg some (by kernel_rfl))
 f332:=Try.func127.trans (congrArg some (by kernel_rfl))
 f343:=Try.func129.trans (congrArg some (by kernel_rfl))
 t0:=Try.underlying0
 a0:=Try.isAgg0
 z0:=Try.sizeOf0
 v0:=Try.zeroValue0
 t3:=Try.underlying3
 a3:=Try.isAgg3
 z3:=Try.sizeOf3
 v3:=Try.zeroValue3
 t4:=Try.underlying4
 a4:=Try.isAgg4
 z4:=Try.sizeOf4
 v4:=Try.zeroValue4
 t5:=Try.underlying5
 a5:=Try.isAgg5
 z5:=Try.sizeOf5
 v5:=Try.zeroValue5
 t9:=Try.underlying9
 a9:=Try.isAgg9
 z9:=Try.sizeOf9
 v9:=Try.zeroValue9
 t28:=Try.underlying44
 a28:=Try.isAgg44
 z28:=Try.sizeOf44
 v28:=Try.zeroValue44
 t46:=Try.underlying109
 a46:=Try.isAgg109
 z46:=Try.sizeOf109
 v46:=Try.zeroValue109
 t51:=Try.underlying124
 a51:=Try.isAgg124
 z51:=Try.sizeOf124
 v51:=Try.zeroValue124
 t53:=Try.underlying126
 a53:=Try.isAgg126
 z53:=Try.sizeOf126
 v53:=Try.zeroValue126
 t131:=Try.underlying79
 a131:=Try.isAgg79
 z131:=Try.sizeOf79
 v131:=Try.zeroValue79
 t182:=Try.underlying116
 a182:=Try.isAgg116
 z182:=Try.sizeOf116
 v182:=Try.zeroValue116
 t183:=Try.underlying117
 a183:=Try.isAgg117
 z183:=Try.sizeOf117
 v183:=Try.zeroValue117
 t218:=Try.underlying127
 a218:=Try.isAgg127
 z218:=Try.sizeOf127
 v218:=Try.zeroValue127
 t222:=Try.underlying131
 a222:=Try.isAgg131
 z222:=Try.sizeOf131
 v222:=Try.zeroValue131
 t228:=Try.underlying133
 a228:=Try.isAgg133
 z228:=Try.sizeOf133
 v228:=Try.zeroValue133
 t229:=Try.underlying134
 a229:=Try.isAgg134
 z229:=Try.sizeOf134
 v229:=Try.zeroValue134 }
def Try.laysNm220_ren:Go.Shelf.Ren:=⟨fun | 20=>75 | n=>n,fun | 22=>44 | 3=>3 | 4=>4 | 0=>0 | n=>n,fun | n=>n⟩
theorem Try.laysNm220:Go.Proofs.Lays2.n20 Try.prog Try.laysNm220_ren := {
 mixed:=by kernel_rfl
 f20:=Try.func75.trans (congrArg some (by kernel_rfl))
 t0:=Try.underlying0
 a0:=Try.isAgg0
 z0:=Try.sizeOf0
 v0:=Try.zeroValue0
 t3:=Try.underlying3
 a3:=Try.isAgg3
 z3:=Try.sizeOf3
 v3:=Try.zeroValue3
 t4:=Try.underlying4
 a4:=Try.isAgg4
 z4:=Try.sizeOf4
 v4:=Try.zeroValue4
 t22:=Try.underlying44
 a22:=Try.isAgg44
 z22:=Try.sizeOf44
 v22:=Try.zeroValue44
 i3:=by kernel_rfl }
end Go.Proofs
