/- What a printed proof leans on: memory that is read, and steps through a region. -/
import Derived.Test.YthcbemnflgjadaaGreatProg
import Derived.Test.YthcbemnflgjadaaGreatzbS5
import Derived.Ground.NamesProg
import Derived.Ground.Names2Prog
import Derived.Shelf.Abstract
import Derived.Shelf.Sort.Plain
import Derived.Shelf.Slices.In.SortNone
set_option linter.all false
namespace Go.Proofs
open Go.Shelf
def Tryz.laysSort_ren:Go.Shelf.Ren:=⟨fun | 189=>45 | 125=>52 | 257=>64 | 128=>77 | 129=>78 | 294=>84 | 295=>85 | 296=>86 | 297=>87 | 298=>88 | 299=>89 | 216=>90 | 300=>91 | 301=>92 | 328=>101 | 329=>96 | 330=>97 | 331=>102 | 332=>103 | 215=>104 | 343=>106 | n=>n,fun | 28=>22 | 3=>3 | 46=>99 | 0=>0 | 51=>131 | 53=>133 | 4=>4 | 183=>125 | 182=>124 | 131=>79 | 5=>5 | 9=>9 | 218=>143 | 222=>147 | 228=>151 | 229=>152 | n=>n,fun | n=>n⟩
theorem Tryz.laysSort:Go.Proofs.Lays.n189 Tryz.prog Tryz.laysSort_ren:={
  mixed:=by kernel_rfl
  f125:=Tryz.func52.trans (congrArg some (by kernel_rfl))
  f128:=Tryz.func77.trans (congrArg some (by kernel_rfl))
  f129:=Tryz.func78.trans (congrArg some (by kernel_rfl))
  f189:=Tryz.func45.trans (congrArg some (by kernel_rfl))
  f215:=Tryz.func104.trans (congrArg some (by kernel_rfl))
  f216:=Tryz.func90.trans (congrArg some (by kernel_rfl))
  f257:=Tryz.func64.trans (congrArg some (by kernel_rfl))
  f294:=Tryz.func84.trans (congrArg some (by kernel_rfl))
  f295:=Tryz.func85.trans (congrArg some (by kernel_rfl))
  f296:=Tryz.func86.trans (congrArg some (by kernel_rfl))
  f297:=Tryz.func87.trans (congrArg some (by kernel_rfl))
  f298:=Tryz.func88.trans (congrArg some (by kernel_rfl))
  f299:=Tryz.func89.trans (congrArg some (by kernel_rfl))
  f300:=Tryz.func91.trans (congrArg some (by kernel_rfl))
  f301:=Tryz.func92.trans (congrArg some (by kernel_rfl))
  f328:=Tryz.func101.trans (congrArg some (by kernel_rfl))
  f329:=Tryz.func96.trans (congrArg some (by kernel_rfl))
  f330:=Tryz.func97.trans (congrArg some (by kernel_rfl))
  f331:=Tryz.func102.trans (congrArg some (by kernel_rfl))
  f332:=Tryz.func103.trans (congrArg some (by kernel_rfl))
  f343:=Tryz.func106.trans (congrArg some (by kernel_rfl))
  t0:=Tryz.underlying0
  a0:=Tryz.isAgg0
  z0:=Tryz.sizeOf0
  v0:=Tryz.zeroValue0
  t3:=Tryz.underlying3
  a3:=Tryz.isAgg3
  z3:=Tryz.sizeOf3
  v3:=Tryz.zeroValue3
  t4:=Tryz.underlying4
  a4:=Tryz.isAgg4
  z4:=Tryz.sizeOf4
  v4:=Tryz.zeroValue4
  t5:=Tryz.underlying5
  a5:=Tryz.isAgg5
  z5:=Tryz.sizeOf5
  v5:=Tryz.zeroValue5
  t9:=Tryz.underlying9
  a9:=Tryz.isAgg9
  z9:=Tryz.sizeOf9
  v9:=Tryz.zeroValue9
  t28:=Tryz.underlying22
  a28:=Tryz.isAgg22
  z28:=Tryz.sizeOf22
  v28:=Tryz.zeroValue22
  t46:=Tryz.underlying99
  a46:=Tryz.isAgg99
  z46:=Tryz.sizeOf99
  v46:=Tryz.zeroValue99
  t51:=Tryz.underlying131
  a51:=Tryz.isAgg131
  z51:=Tryz.sizeOf131
  v51:=Tryz.zeroValue131
  t53:=Tryz.underlying133
  a53:=Tryz.isAgg133
  z53:=Tryz.sizeOf133
  v53:=Tryz.zeroValue133
  t131:=Tryz.underlying79
  a131:=Tryz.isAgg79
  z131:=Tryz.sizeOf79
  v131:=Tryz.zeroValue79
  t182:=Tryz.underlying124
  a182:=Tryz.isAgg124
  z182:=Tryz.sizeOf124
  v182:=Tryz.zeroValue124
  t183:=Tryz.underlying125
  a183:=Tryz.isAgg125
  z183:=Tryz.sizeOf125
  v183:=Tryz.zeroValue125
  t218:=Tryz.underlying143
  a218:=Tryz.isAgg143
  z218:=Tryz.sizeOf143
  v218:=Tryz.zeroValue143
  t222:=Tryz.underlying147
  a222:=Tryz.isAgg147
  z222:=Tryz.sizeOf147
  v222:=Tryz.zeroValue147
  t228:=Tryz.underlying151
  a228:=Tryz.isAgg151
  z228:=Tryz.sizeOf151
  v228:=Tryz.zeroValue151
  t229:=Tryz.underlying152
  a229:=Tryz.isAgg152
  z229:=Tryz.sizeOf152
  v229:=Tryz.zeroValue152 }
end Go.Proofs
namespace Go.Proofs.YthcbemnflgjadaaGreat
open Go Go.RowKit
theorem Tryz.sorts:UD Tryz.prog 45 :=
  ⟨fun blk cap zs w hH hb hl=>Any.slices_Sort_int Tryz.laysSort blk 0 cap zs w hH hb hl,fun c w=>(Any.slices_Sort_int_none Tryz.laysSort none c w)⟩
end Go.Proofs.YthcbemnflgjadaaGreat
