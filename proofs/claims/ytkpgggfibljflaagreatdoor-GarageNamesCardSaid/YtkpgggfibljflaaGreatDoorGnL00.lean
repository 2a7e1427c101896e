/- The plain law. -/
import Derived.Test.YtkpgggfibljflaaGreatDoorGnS18
set_option linter.all false
set_option maxRecDepth 100000
namespace Go.Proofs.YtkpgggfibljflaaGreatDoor
open Go Go.RowKit Go.Proofs
theorem names_law : flaw_GarageNames 2000 = some (true, ()) := by kernel_rfl
end Go.Proofs.YtkpgggfibljflaaGreatDoor
