/- What a proof leans on: a machine that steps through code, and what functions compute. -/
import Derived.Test.YtkpgggfibljflaaGreatDoorgQS16
import Derived.RecoverIn
import Derived.Tactics
import Derived.Tactics2
import Derived.WalkKit
import Derived.Laws.Pointers
set_option linter.all false
namespace Go.Proofs.YtkpgggfibljflaaGreatDoor
open Go Go.RowKit Go.Proofs
open Rep (rep)
set_option maxHeartbeats 4000000
set_option maxRecDepth 100000
theorem XA (p:Addr) (w:World):CallsDIn Fence.wide 0 Tryz.prog 137 #[.pointer (some p)] .returning w fun e u' w'=>e=.returned (.tuple #[])∧u' = .returning∧w' = w:=by
 refine callsDIn_of_wpSIn Tryz.func137 rfl trivial fun c₀ cs hu=>?_
 apply wpSIn_seq
 apply wpSIn_region
 simp [wpOpsSIn,go_sem,recoverD,hu,Tryz.ntmps137,Exit.thenS]
 refine wpSIn_of_wpIn rfl (wpIn_wide.2 ?_)
 go_wp2
 cases c₀
 simp_all [bodyPostS,results,Tryz.results137]
theorem XB (W:World) (v:Value):(Instr.typeAssert (.iface 234 v) 20 234 true).run Tryz.prog W=.ok (.tuple #[v,.bool true]) W:=by kernel_rfl
theorem OD (p:Addr) (x:Int) (r:Int) (w:World) (hlt:p.block<w.heap.size) (hc:w.cell? p=some (.int .i64 x)) (hz:w.frozen? p=false):CallsDIn Fence.wide 0 Tryz.prog 137 #[.pointer (some p)] (.panicking [{ v:=.iface 234 (.agg #[.int .i64 r]),recovered:=false }]) w fun e u' w'=>e=.returned (.tuple #[])∧u' = .panicking [{ v:=.iface 234 (.agg #[.int .i64 r]),recovered:=true }]∧w' = (w.alloc (.cells #[.int .i64 r] 234)).setCell p (.int .i64 r):=by
 refine callsDIn_of_wpSIn Tryz.func137 rfl trivial fun c₀ cs hu=>?_
 apply wpSIn_seq
 apply wpSIn_region
 simp [wpOpsSIn,go_sem,recoverD,hu,Tryz.ntmps137,Exit.thenS]
 refine wpSIn_of_wpIn rfl (wpIn_wide.2 ?_)
 have hta:∀ W,(Instr.typeAssert (.iface 234 (.agg #[.int .i64 r])) 20 234 true).run Tryz.prog W=.ok (.tuple #[.agg #[.int .i64 r],.bool true]) W:=fun W=>XB W _
 have hne:p.block≠w.heap.size:=Nat.ne_of_lt hlt
 have hc2:∀ o,(w.alloc o).cell? p=some (.int .i64 x):=fun o=>by rw [World.cell?_alloc_old _ _ _ hne]; exact hc
 have hz2:∀ o,(w.alloc o).frozen? p=false:=fun o=>by rw [World.frozen?_alloc_old _ _ _ hne]; exact hz
 clear hc hz
 go_wp2
 simp [bodyPostS,results,Tryz.results137]
end Go.Proofs.YtkpgggfibljflaaGreatDoor
