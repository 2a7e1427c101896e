/- What a printed proof leans on: memory that is read, and steps through a region. -/
import Derived.Test.YtinminkmefljbaaGreatProg
import Derived.Test.YtinminkmefljbaaGreattcS6
import Derived.Ground.Names8Prog
import Derived.Shelf.Abstract
import Derived.Shelf.Spec.SlicesGrow
set_option linter.all false
namespace Go.Proofs
open Go.Shelf
def Tryz.laysGrow_ren:Go.Shelf.Ren:=⟨fun | 4=>65 | n=>n,fun | 22=>26 | 25=>3 | 3=>3 | 4=>4 | 9=>9 | 20=>20 | 0=>0 | n=>n,fun | n=>n⟩
theorem Tryz.laysGrow:Go.Proofs.Lays8.n4 Tryz.prog Tryz.laysGrow_ren:={
  mixed:=by kernel_rfl
  f4:=⟨"slices.Grow[[]int,int]",by decide,Tryz.func65.trans (congrArg some (by kernel_rfl))⟩
  t0:=Tryz.underlying0
  a0:=Tryz.isAgg0
  z0:=Tryz.sizeOf0
  v0:=Tryz.zeroValue0
  t3:=Tryz.underlying3
  a3:=Tryz.isAgg3
  z3:=Tryz.sizeOf3
  v3:=Tryz.zeroValue3
  t4:=Tryz.underlying4
  a4:=Tryz.isAgg4
  z4:=Tryz.sizeOf4
  v4:=Tryz.zeroValue4
  t9:=Tryz.underlying9
  a9:=Tryz.isAgg9
  z9:=Tryz.sizeOf9
  v9:=Tryz.zeroValue9
  t20:=Tryz.underlying20
  a20:=Tryz.isAgg20
  z20:=Tryz.sizeOf20
  v20:=Tryz.zeroValue20
  t22:=Tryz.underlying26
  a22:=Tryz.isAgg26
  z22:=Tryz.sizeOf26
  v22:=Tryz.zeroValue26 }
end Go.Proofs
namespace Go.Proofs.YtinminkmefljbaaGreat
open Go Go.RowKit
theorem Tryz.grows:WO Tryz.prog 65 3:=fun k w hk=>by
  rcases Nat.eq_zero_or_pos k with rfl | h0
  · refine(Any8.slices_Grow_room Tryz.laysGrow none 0 0 0 w (by omega) (by omega) (by omega) (by omega)).mono ?_
    rintro en w' ⟨rfl,rfl⟩
    exact .inl ⟨rfl,rfl⟩
  obtain⟨ii,zv,e1,e2,e3,e4,e5,e6⟩:=F6 (P:=Tryz.prog) (E:=3) (sz:=1) (bytes:=8) (by kernel_rfl)
  refine(Any8.slices_Grow_grow Tryz.laysGrow ii zv e1 e2 (by omega) none 0 0 k [] w (by omega) (by omega) (by rw [e4]; omega) (by omega) (by simp) (fun _=>rfl) (fun a ha=>by cases ha)).mono ?_
  rintro en w' ⟨rfl,rfl⟩
  refine .inr ⟨_,_,rfl,grownCap_le_maxLen w _ _ _ (by unfold maxLen; omega),?_,rfl⟩
  have hg:=grownCap_ge w (0+k) 0 (Tryz.laysGrow_ren.t 25)
  simp only [Array.size_append,size_zeroCells,e5]
  show([]:List Value).length+_*1+_*1=_
  simp only [List.length_nil]
  omega
end Go.Proofs.YtinminkmefljbaaGreat
