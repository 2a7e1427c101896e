/- What a printed proof leans on: memory that is read, and steps through a region. -/
import Derived.Test.YtokchpjijlebiaaGreatProg
import Derived.Test.YtokchpjijlebiaaGreatRQS7
import Derived.Ground.Names2Prog
import Derived.Shelf.Abstract
import Derived.Shelf.Slices.CompactI
set_option linter.all false
namespace Go.Proofs
open Go.Shelf
def Tryz.laysComp_ren:Go.Shelf.Ren:=⟨fun | 20=>77 | n=>n,fun | 22=>29 | 3=>3 | 4=>4 | 0=>0 | n=>n,fun | n=>n⟩
theorem Tryz.laysComp:Go.Proofs.Lays2.n20 Tryz.prog Tryz.laysComp_ren:={
  mixed:=by kernel_rfl
  f20:=Tryz.func77.trans (congrArg some (by kernel_rfl))
  t0:=Tryz.underlying0
  a0:=Tryz.isAgg0
  z0:=Tryz.sizeOf0
  v0:=Tryz.zeroValue0
  t3:=Tryz.underlying3
  a3:=Tryz.isAgg3
  z3:=Tryz.sizeOf3
  v3:=Tryz.zeroValue3
  t4:=Tryz.underlying4
  a4:=Tryz.isAgg4
  z4:=Tryz.sizeOf4
  v4:=Tryz.zeroValue4
  t22:=Tryz.underlying29
  a22:=Tryz.isAgg29
  z22:=Tryz.sizeOf29
  v22:=Tryz.zeroValue29
  i3:=by kernel_rfl }
end Go.Proofs
namespace Go.Proofs.YtokchpjijlebiaaGreat
open Go Go.RowKit
theorem Tryz.compacts:RI Tryz.prog 77 :=
  ⟨fun blk cap zs w hH hb hc=>Any.slices_Compact_int Tryz.laysComp blk 0 cap zs w hH hb hc,fun a c w=>Any.slices_Compact_int_empty Tryz.laysComp a c w⟩
end Go.Proofs.YtokchpjijlebiaaGreat
