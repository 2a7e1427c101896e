/- What a printed proof leans on: memory that is read, and steps through a region. -/
import Derived.Test.YtkbphdjemgibnaaProg
import Derived.Test.YtkbphdjemgibnaaFiS5
import Derived.Ground.NamesProg
import Derived.Ground.Names2Prog
import Derived.Shelf.Lay
import Derived.Shelf.Sort.Plain
import Derived.Shelf.Slices.In.SortNone
set_option linter.all false
namespace Go.Proofs
open Go.Shelf
shelf_lay Lays.n189 Nm 189 at Try as Try.laysSort
end Go.Proofs
namespace Go.Proofs.Ytkbphdjemgibnaa
open Go Go.RowKit
theorem Try.sorts : Sorts Try.prog 61 :=
  ⟨fun blk cap zs w hH hb hl => Any.slices_Sort_int Try.laysSort blk 0 cap zs w hH hb hl, fun c w => (Any.slices_Sort_int_none Try.laysSort none c w)⟩
end Go.Proofs.Ytkbphdjemgibnaa
