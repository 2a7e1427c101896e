/- What a printed proof leans on: memory that is read, and steps through a region. -/
import Derived.Test.YtokchpjijlebiaaProg
import Derived.Test.YtokchpjijlebiaaNQS7
import Derived.Ground.Names2Prog
import Derived.Shelf.Abstract
import Derived.Shelf.Slices.CompactI
set_option linter.all false
namespace Go.Proofs
open Go.Shelf
def Try.laysComp_ren:Go.Shelf.Ren:=⟨fun | 20=>99 | n=>n,fun | 22=>31 | 3=>3 | 4=>4 | 0=>0 | n=>n,fun | n=>n⟩
theorem Try.laysComp:Go.Proofs.Lays2.n20 Try.prog Try.laysComp_ren:={
  mixed:=by kernel_rfl
  f20:=Try.func99.trans (congrArg some (by kernel_rfl))
  t0:=Try.underlying0
  a0:=Try.isAgg0
  z0:=Try.sizeOf0
  v0:=Try.zeroValue0
  t3:=Try.underlying3
  a3:=Try.isAgg3
  z3:=Try.sizeOf3
  v3:=Try.zeroValue3
  t4:=Try.underlying4
  a4:=Try.isAgg4
  z4:=Try.sizeOf4
  v4:=Try.zeroValue4
  t22:=Try.underlying31
  a22:=Try.isAgg31
  z22:=Try.sizeOf31
  v22:=Try.zeroValue31
  i3:=by kernel_rfl }
end Go.Proofs
namespace Go.Proofs.Ytokchpjijlebiaa
open Go Go.RowKit
theorem Try.compacts:MG Try.prog 99 :=
  ⟨fun blk cap zs w hH hb hc=>Any.slices_Compact_int Try.laysComp blk 0 cap zs w hH hb hc,fun a c w=>Any.slices_Compact_int_empty Try.laysComp a c w⟩
end Go.Proofs.Ytokchpjijlebiaa
namespace Go.Proofs.Ytokchpjijlebiaa
open Go Go.RowKit
open Rep (rep)
open KRep (kv)
open VRep (rv)
section
variable {P:Program} {Q:Exit→Act→World→Prop} {N:Nat} {F:Fr} {h:Ad} {e:AG} {pl:List Cu} {rw:List Cf} {w:World} {m:TM} {t:Array Value} {dd:List Deferred} {o:Oper} {d:Nat} {K:Act→World→Prop}
end
end Go.Proofs.Ytokchpjijlebiaa
