/- What a printed proof leans on: memory that is read, and steps through a region. -/
import Derived.Test.YtokchpjijlebiaaProg
import Derived.Test.YtokchpjijlebiaaNQS5
import Derived.Ground.NamesProg
import Derived.Ground.Names2Prog
import Derived.Shelf.Abstract
import Derived.Shelf.Sort.Plain
import Derived.Shelf.Slices.In.SortNone
set_option linter.all false
namespace Go.Proofs
open Go.Shelf
def Try.laysSort_ren:Go.Shelf.Ren:=⟨fun | 189=>98 | 125=>109 | 257=>108 | 128=>122 | 129=>123 | 294=>113 | 295=>114 | 296=>115 | 297=>116 | 298=>117 | 299=>118 | 216=>119 | 300=>120 | 301=>121 | 328=>124 | 329=>125 | 330=>126 | 331=>127 | 332=>128 | 215=>129 | 343=>130 | n=>n,fun | 28=>31 | 3=>3 | 46=>118 | 0=>0 | 51=>177 | 53=>179 | 4=>4 | 183=>171 | 182=>170 | 131=>112 | 5=>5 | 9=>9 | 218=>180 | 222=>184 | 228=>186 | 229=>187 | n=>n,fun | n=>n⟩
theorem Try.laysSort:Go.Proofs.Lays.n189 Try.prog Try.laysSort_ren:={
  mixed:=by kernel_rfl
  f125:=Try.func109.trans (congrArg some (by kernel_rfl))
  f128:=Try.func122.trans (congrArg some (by kernel_rfl))
  f129:=Try.func123.trans (congrArg some (by kernel_rfl))
  f189:=Try.func98.trans (congrArg some (by kernel_rfl))
  f215:=Try.func129.trans (congrArg some (by kernel_rfl))
  f216:=Try.func119.trans (congrArg some (by kernel_rfl))
  f257:=Try.func108.trans (congrArg some (by kernel_rfl))
  f294:=Try.func113.trans (congrArg some (by kernel_rfl))
  f295:=Try.func114.trans (congrArg some (by kernel_rfl))
  f296:=Try.func115.trans (congrArg some (by kernel_rfl))
  f297:=Try.func116.trans (congrArg some (by kernel_rfl))
  f298:=Try.func117.trans (congrArg some (by kernel_rfl))
  f299:=Try.func118.trans (congrArg some (by kernel_rfl))
  f300:=Try.func120.trans (congrArg some (by kernel_rfl))
  f301:=Try.func121.trans (congrArg some (by kernel_rfl))
  f328:=Try.func124.trans (congrArg some (by kernel_rfl))
  f329:=Try.func125.trans (congrArg some (by kernel_rfl))
  f330:=Try.func126.trans (congrArg some (by kernel_rfl))
  f331:=Try.func127.trans (congrArg some (by kernel_rfl))
  f332:=Try.func128.trans (congrArg some (by kernel_rfl))
  f343:=Try.func130.trans (congrArg some (by kernel_rfl))
  t0:=Try.underlying0
  a0:=Try.isAgg0
  z0:=Try.sizeOf0
  v0:=Try.zeroValue0
  t3:=Try.underlying3
  a3:=Try.isAgg3
  z3:=Try.sizeOf3
  v3:=Try.zeroValue3
  t4:=Try.underlying4
  a4:=Try.isAgg4
  z4:=Try.sizeOf4
  v4:=Try.zeroValue4
  t5:=Try.underlying5
  a5:=Try.isAgg5
  z5:=Try.sizeOf5
  v5:=Try.zeroValue5
  t9:=Try.underlying9
  a9:=Try.isAgg9
  z9:=Try.sizeOf9
  v9:=Try.zeroValue9
  t28:=Try.underlying31
  a28:=Try.isAgg31
  z28:=Try.sizeOf31
  v28:=Try.zeroValue31
  t46:=Try.underlying118
  a46:=Try.isAgg118
  z46:=Try.sizeOf118
  v46:=Try.zeroValue118
  t51:=Try.underlying177
  a51:=Try.isAgg177
  z51:=Try.sizeOf177
  v51:=Try.zeroValue177
  t53:=Try.underlying179
  a53:=Try.isAgg179
  z53:=Try.sizeOf179
  v53:=Try.zeroValue179
  t131:=Try.underlying112
  a131:=Try.isAgg112
  z131:=Try.sizeOf112
  v131:=Try.zeroValue112
  t182:=Try.underlying170
  a182:=Try.isAgg170
  z182:=Try.sizeOf170
  v182:=Try.zeroValue170
  t183:=Try.underlying171
  a183:=Try.isAgg171
  z183:=Try.sizeOf171
  v183:=Try.zeroValue171
  t218:=Try.underlying180
  a218:=Try.isAgg180
  z218:=Try.sizeOf180
  v218:=Try.zeroValue180
  t222:=Try.underlying184
  a222:=Try.isAgg184
  z222:=Try.sizeOf184
  v222:=Try.zeroValue184
  t228:=Try.underlying186
  a228:=Try.isAgg186
  z228:=Try.sizeOf186
  v228:=Try.zeroValue186
  t229:=Try.underlying187
  a229:=Try.isAgg187
  z229:=Try.sizeOf187
  v229:=Try.zeroValue187 }
end Go.Proofs
namespace Go.Proofs.Ytokchpjijlebiaa
open Go Go.RowKit
theorem Try.sorts:Py Try.prog 98 :=
  ⟨fun blk cap zs w hH hb hl=>Any.slices_Sort_int Try.laysSort blk 0 cap zs w hH hb hl,fun c w=>(Any.slices_Sort_int_none Try.laysSort none c w)⟩
end Go.Proofs.Ytokchpjijlebiaa
