/- What a printed proof leans on: memory that is read, and steps through a region. -/
import Derived.Test.YtinminkmefljbaaGreatProg
import Derived.Test.YtinminkmefljbaaGreattcS6
import Derived.Ground.NamesProg
import Derived.Ground.Names2Prog
import Derived.Shelf.Abstract
import Derived.Shelf.Bits.Mul64
set_option linter.all false
namespace Go.Proofs
open Go.Shelf
def Tryz.laysMul_ren:Go.Shelf.Ren:=⟨fun | 212=>79 | 263=>104 | 264=>105 | n=>n,fun | 46=>140 | 51=>157 | 146=>164 | 53=>159 | 148=>166 | n=>n,fun | n=>n⟩
theorem Tryz.laysMul:Go.Proofs.Lays.n212 Tryz.prog Tryz.laysMul_ren:={
  mixed:=by kernel_rfl
  f212:=Tryz.func79.trans (congrArg some (by kernel_rfl))
  f263:=Tryz.func104.trans (congrArg some (by kernel_rfl))
  f264:=Tryz.func105.trans (congrArg some (by kernel_rfl))
  t46:=Tryz.underlying140
  a46:=Tryz.isAgg140
  z46:=Tryz.sizeOf140
  v46:=Tryz.zeroValue140
  t51:=Tryz.underlying157
  a51:=Tryz.isAgg157
  z51:=Tryz.sizeOf157
  v51:=Tryz.zeroValue157
  t53:=Tryz.underlying159
  a53:=Tryz.isAgg159
  z53:=Tryz.sizeOf159
  v53:=Tryz.zeroValue159
  t146:=Tryz.underlying164
  a146:=Tryz.isAgg164
  z146:=Tryz.sizeOf164
  v146:=Tryz.zeroValue164
  t148:=Tryz.underlying166
  a148:=Tryz.isAgg166
  z148:=Tryz.sizeOf166
  v148:=Tryz.zeroValue166 }
end Go.Proofs
namespace Go.Proofs.YtinminkmefljbaaGreat
open Go Go.RowKit
def Ph (x y:IK .u64):Option (IK .u64×IK .u64):=if (0≤x.n∧x.n≤18446744073709551615)∧(0≤y.n∧y.n≤18446744073709551615) then some (⟨x.n*y.n / 18446744073709551616⟩,⟨x.n*y.n % 18446744073709551616⟩) else none
theorem Tryz.muls (x y:IK .u64) {r:IK .u64×IK .u64} (H:Ph x y=some r) (w:World):Calls Tryz.prog 79 #[.int .u64 x.n,.int .u64 y.n] w fun en w'=>en=.returned (.tuple #[.int .u64 r.1.n,.int .u64 r.2.n])∧w' = w:=by
  unfold Ph at H
  split at H
  · rename_i h0
    cases H
    obtain⟨⟨x0,x1⟩,⟨y0,y1⟩⟩:=h0
    obtain⟨a,ha⟩:=Int.eq_ofNat_of_zero_le x0
    obtain⟨b,hb⟩:=Int.eq_ofNat_of_zero_le y0
    have h:=Any.bits_Mul Tryz.laysMul a b (by omega) (by omega) w
    rw [ha,hb]
    exact h
  cases H
end Go.Proofs.YtinminkmefljbaaGreat
