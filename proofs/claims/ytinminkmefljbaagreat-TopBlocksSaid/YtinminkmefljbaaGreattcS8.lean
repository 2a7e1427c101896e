/- What a printed proof leans on: memory that is read, and steps through a region. -/
import Derived.Test.YtinminkmefljbaaGreatProg
import Derived.Test.YtinminkmefljbaaGreattcS5
import Derived.Ground.NamesProg
import Derived.Ground.Names2Prog
import Derived.Shelf.Abstract
import Derived.Shelf.Sort.Plain
import Derived.Shelf.Slices.In.SortNone
set_option linter.all false
namespace Go.Proofs
open Go.Shelf
def Tryz.laysSort_ren:Go.Shelf.Ren:=⟨fun | 189=>38 | 125=>70 | 257=>69 | 128=>97 | 129=>98 | 294=>88 | 295=>89 | 296=>90 | 297=>91 | 298=>92 | 299=>93 | 216=>94 | 300=>95 | 301=>96 | 328=>116 | 329=>117 | 330=>118 | 331=>119 | 332=>120 | 215=>121 | 343=>127 | n=>n,fun | 28=>26 | 3=>3 | 46=>140 | 0=>0 | 51=>157 | 53=>159 | 4=>4 | 183=>151 | 182=>150 | 131=>89 | 5=>5 | 9=>9 | 218=>174 | 222=>178 | 228=>186 | 229=>187 | n=>n,fun | n=>n⟩
theorem Tryz.laysSort:Go.Proofs.Lays.n189 Tryz.prog Tryz.laysSort_ren:={
  mixed:=by kernel_rfl
  f125:=Tryz.func70.trans (congrArg some (by kernel_rfl))
  f128:=Tryz.func97.trans (congrArg some (by kernel_rfl))
  f129:=Tryz.func98.trans (congrArg some (by kernel_rfl))
  f189:=Tryz.func38.trans (congrArg some (by kernel_rfl))
  f215:=Tryz.func121.trans (congrArg some (by kernel_rfl))
  f216:=Tryz.func94.trans (congrArg some (by kernel_rfl))
  f257:=Tryz.func69.trans (congrArg some (by kernel_rfl))
  f294:=Tryz.func88.trans (congrArg some (by kernel_rfl))
  f295:=Tryz.func89.trans (congrArg some (by kernel_rfl))
  f296:=Tryz.func90.trans (congrArg some (by kernel_rfl))
  f297:=Tryz.func91.trans (congrArg some (by kernel_rfl))
  f298:=Tryz.func92.trans (congrArg some (by kernel_rfl))
  f299:=Tryz.func93.trans (congrArg some (by kernel_rfl))
  f300:=Tryz.func95.trans (congrArg some (by kernel_rfl))
  f301:=Tryz.func96.trans (congrArg some (by kernel_rfl))
  f328:=Tryz.func116.trans (congrArg some (by kernel_rfl))
  f329:=Tryz.func117.trans (congrArg some (by kernel_rfl))
  f330:=Tryz.func118.trans (congrArg some (by kernel_rfl))
  f331:=Tryz.func119.trans (congrArg some (by kernel_rfl))
  f332:=Tryz.func120.trans (congrArg some (by kernel_rfl))
  f343:=Tryz.func127.trans (congrArg some (by kernel_rfl))
  t0:=Tryz.underlying0
  a0:=Tryz.isAgg0
  z0:=Tryz.sizeOf0
  v0:=Tryz.zeroValue0
  t3:=Tryz.underlying3
  a3:=Tryz.isAgg3
  z3:=Tryz.sizeOf3
  v3:=Tryz.zeroValue3
  t4:=Tryz.underlying4
  a4:=Tryz.isAgg4
  z4:=Tryz.sizeOf4
  v4:=Tryz.zeroValue4
  t5:=Tryz.underlying5
  a5:=Tryz.isAgg5
  z5:=Tryz.sizeOf5
  v5:=Tryz.zeroValue5
  t9:=Tryz.underlying9
  a9:=Tryz.isAgg9
  z9:=Tryz.sizeOf9
  v9:=Tryz.zeroValue9
  t28:=Tryz.underlying26
  a28:=Tryz.isAgg26
  z28:=Tryz.sizeOf26
  v28:=Tryz.zeroValue26
  t46:=Tryz.underlying140
  a46:=Tryz.isAgg140
  z46:=Tryz.sizeOf140
  v46:=Tryz.zeroValue140
  t51:=Tryz.underlying157
  a51:=Tryz.isAgg157
  z51:=Tryz.sizeOf157
  v51:=Tryz.zeroValue157
  t53:=Tryz.underlying159
  a53:=Tryz.isAgg159
  z53:=Tryz.sizeOf159
  v53:=Tryz.zeroValue159
  t131:=Tryz.underlying89
  a131:=Tryz.isAgg89
  z131:=Tryz.sizeOf89
  v131:=Tryz.zeroValue89
  t182:=Tryz.underlying150
  a182:=Tryz.isAgg150
  z182:=Tryz.sizeOf150
  v182:=Tryz.zeroValue150
  t183:=Tryz.underlying151
  a183:=Tryz.isAgg151
  z183:=Tryz.sizeOf151
  v183:=Tryz.zeroValue151
  t218:=Tryz.underlying174
  a218:=Tryz.isAgg174
  z218:=Tryz.sizeOf174
  v218:=Tryz.zeroValue174
  t222:=Tryz.underlying178
  a222:=Tryz.isAgg178
  z222:=Tryz.sizeOf178
  v222:=Tryz.zeroValue178
  t228:=Tryz.underlying186
  a228:=Tryz.isAgg186
  z228:=Tryz.sizeOf186
  v228:=Tryz.zeroValue186
  t229:=Tryz.underlying187
  a229:=Tryz.isAgg187
  z229:=Tryz.sizeOf187
  v229:=Tryz.zeroValue187 }
end Go.Proofs
namespace Go.Proofs.YtinminkmefljbaaGreat
open Go Go.RowKit
theorem Tryz.sorts:WN Tryz.prog 38 :=
  ⟨fun blk cap zs w hH hb hl=>Any.slices_Sort_int Tryz.laysSort blk 0 cap zs w hH hb hl,fun c w=>(Any.slices_Sort_int_none Tryz.laysSort none c w)⟩
end Go.Proofs.YtinminkmefljbaaGreat
