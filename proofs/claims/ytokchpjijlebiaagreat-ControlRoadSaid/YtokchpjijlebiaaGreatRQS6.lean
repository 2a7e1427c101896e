/- What a printed proof leans on: memory that is read, and steps through a region. -/
import Derived.Test.YtokchpjijlebiaaGreatProg
import Derived.Test.YtokchpjijlebiaaGreatRQS5
import Derived.Ground.NamesProg
import Derived.Ground.Names2Prog
import Derived.Shelf.Abstract
import Derived.Shelf.Sort.Plain
import Derived.Shelf.Slices.In.SortNone
set_option linter.all false
namespace Go.Proofs
open Go.Shelf
def Tryz.laysSort_ren:Go.Shelf.Ren:=⟨fun | 189=>76 | 125=>93 | 257=>92 | 128=>106 | 129=>107 | 294=>97 | 295=>98 | 296=>99 | 297=>100 | 298=>101 | 299=>102 | 216=>103 | 300=>104 | 301=>105 | 328=>108 | 329=>109 | 330=>110 | 331=>111 | 332=>112 | 215=>113 | 343=>114 | n=>n,fun | 28=>29 | 3=>3 | 46=>154 | 0=>0 | 51=>166 | 53=>168 | 4=>4 | 183=>160 | 182=>159 | 131=>126 | 5=>5 | 9=>9 | 218=>169 | 222=>173 | 228=>175 | 229=>176 | n=>n,fun | n=>n⟩
theorem Tryz.laysSort:Go.Proofs.Lays.n189 Tryz.prog Tryz.laysSort_ren:={
  mixed:=by kernel_rfl
  f125:=Tryz.func93.trans (congrArg some (by kernel_rfl))
  f128:=Tryz.func106.trans (congrArg some (by kernel_rfl))
  f129:=Tryz.func107.trans (congrArg some (by kernel_rfl))
  f189:=Tryz.func76.trans (congrArg some (by kernel_rfl))
  f215:=Tryz.func113.trans (congrArg some (by kernel_rfl))
  f216:=Tryz.func103.trans (congrArg some (by kernel_rfl))
  f257:=Tryz.func92.trans (congrArg some (by kernel_rfl))
  f294:=Tryz.func97.trans (congrArg some (by kernel_rfl))
  f295:=Tryz.func98.trans (congrArg some (by kernel_rfl))
  f296:=Tryz.func99.trans (congrArg some (by kernel_rfl))
  f297:=Tryz.func100.trans (congrArg some (by kernel_rfl))
  f298:=Tryz.func101.trans (congrArg some (by kernel_rfl))
  f299:=Tryz.func102.trans (congrArg some (by kernel_rfl))
  f300:=Tryz.func104.trans (congrArg some (by kernel_rfl))
  f301:=Tryz.func105.trans (congrArg some (by kernel_rfl))
  f328:=Tryz.func108.trans (congrArg some (by kernel_rfl))
  f329:=Tryz.func109.trans (congrArg some (by kernel_rfl))
  f330:=Tryz.func110.trans (congrArg some (by kernel_rfl))
  f331:=Tryz.func111.trans (congrArg some (by kernel_rfl))
  f332:=Tryz.func112.trans (congrArg some (by kernel_rfl))
  f343:=Tryz.func114.trans (congrArg some (by kernel_rfl))
  t0:=Tryz.underlying0
  a0:=Tryz.isAgg0
  z0:=Tryz.sizeOf0
  v0:=Tryz.zeroValue0
  t3:=Tryz.underlying3
  a3:=Tryz.isAgg3
  z3:=Tryz.sizeOf3
  v3:=Tryz.zeroValue3
  t4:=Tryz.underlying4
  a4:=Tryz.isAgg4
  z4:=Tryz.sizeOf4
  v4:=Tryz.zeroValue4
  t5:=Tryz.underlying5
  a5:=Tryz.isAgg5
  z5:=Tryz.sizeOf5
  v5:=Tryz.zeroValue5
  t9:=Tryz.underlying9
  a9:=Tryz.isAgg9
  z9:=Tryz.sizeOf9
  v9:=Tryz.zeroValue9
  t28:=Tryz.underlying29
  a28:=Tryz.isAgg29
  z28:=Tryz.sizeOf29
  v28:=Tryz.zeroValue29
  t46:=Tryz.underlying154
  a46:=Tryz.isAgg154
  z46:=Tryz.sizeOf154
  v46:=Tryz.zeroValue154
  t51:=Tryz.underlying166
  a51:=Tryz.isAgg166
  z51:=Tryz.sizeOf166
  v51:=Tryz.zeroValue166
  t53:=Tryz.underlying168
  a53:=Tryz.isAgg168
  z53:=Tryz.sizeOf168
  v53:=Tryz.zeroValue168
  t131:=Tryz.underlying126
  a131:=Tryz.isAgg126
  z131:=Tryz.sizeOf126
  v131:=Tryz.zeroValue126
  t182:=Tryz.underlying159
  a182:=Tryz.isAgg159
  z182:=Tryz.sizeOf159
  v182:=Tryz.zeroValue159
  t183:=Tryz.underlying160
  a183:=Tryz.isAgg160
  z183:=Tryz.sizeOf160
  v183:=Tryz.zeroValue160
  t218:=Tryz.underlying169
  a218:=Tryz.isAgg169
  z218:=Tryz.sizeOf169
  v218:=Tryz.zeroValue169
  t222:=Tryz.underlying173
  a222:=Tryz.isAgg173
  z222:=Tryz.sizeOf173
  v222:=Tryz.zeroValue173
  t228:=Tryz.underlying175
  a228:=Tryz.isAgg175
  z228:=Tryz.sizeOf175
  v228:=Tryz.zeroValue175
  t229:=Tryz.underlying176
  a229:=Tryz.isAgg176
  z229:=Tryz.sizeOf176
  v229:=Tryz.zeroValue176 }
end Go.Proofs
namespace Go.Proofs.YtokchpjijlebiaaGreat
open Go Go.RowKit
theorem Tryz.sorts:V5 Tryz.prog 76 :=
  ⟨fun blk cap zs w hH hb hl=>Any.slices_Sort_int Tryz.laysSort blk 0 cap zs w hH hb hl,fun c w=>(Any.slices_Sort_int_none Tryz.laysSort none c w)⟩
end Go.Proofs.YtokchpjijlebiaaGreat
