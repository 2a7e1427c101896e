/- What a proof leans on: a machine that steps through code, and what functions compute. -/
import Derived.Test.YtkpgggfibljflaaGreatDoorgQS12
import Derived.Handy
import Derived.WalkKit
import Derived.Ground.Names2Prog
import Derived.Ground.Names8Prog
import Derived.Ground.SlsfProg
import Derived.Shelf.Abstract
import Derived.Shelf.Sort.Plain
import Derived.Shelf.Slices.In.SortNone
import Derived.Shelf.Spec.SlicesGrow
import Derived.Shelf.SlSortCmp.WholeK
import Derived.Shelf.SlSortCmp.NoneTotal
set_option linter.all false
set_option maxRecDepth 100000
namespace Go.Proofs
def Tryz.laysSort_ren:Go.Shelf.Ren:=⟨fun | 189=>108 | 125=>161 | 257=>160 | 128=>224 | 129=>225 | 294=>215 | 295=>216 | 296=>217 | 297=>218 | 298=>219 | 299=>220 | 216=>221 | 300=>222 | 301=>223 | 328=>275 | 329=>276 | 330=>277 | 331=>278 | 332=>279 | 215=>280 | 343=>324 | n=>n,fun | 28=>33 | 3=>3 | 46=>262 | 0=>0 | 51=>309 | 53=>311 | 4=>4 | 183=>303 | 182=>302 | 131=>128 | 5=>5 | 9=>9 | 218=>352 | 222=>356 | 228=>393 | 229=>75 | n=>n,fun | n=>n⟩
theorem Tryz.laysSort:Go.Proofs.Lays.n189 Tryz.prog Tryz.laysSort_ren:={
 mixed:=by kernel_rfl
 f125:=Tryz.func161.trans (congrArg some (by kernel_rfl))
 f128:=Tryz.func224.trans (congrArg some (by kernel_rfl))
 f129:=Tryz.func225.trans (congrArg some (by kernel_rfl))
 f189:=Tryz.func108.trans (congrArg some (by kernel_rfl))
 f215:=Tryz.func280.trans (congrArg some (by kernel_rfl))
 f216:=Tryz.func221.trans (congrArg some (by kernel_rfl))
 f257:=Tryz.func160.trans (congrArg some (by kernel_rfl))
 f294:=Tryz.func215.trans (congrArg some (by kernel_rfl))
 f295:=Tryz.func216.trans (congrArg some (by kernel_rfl))
 f296:=Tryz.func217.trans (congrArg some (by kernel_rfl))
 f297:=Tryz.func218.trans (congrArg some (by kernel_rfl))
 f298:=Tryz.func219.trans (congrArg some (by kernel_rfl))
 f299:=Tryz.func220.trans (congrArg some (by kernel_rfl))
 f300:=Tryz.func222.trans (congrArg some (by kernel_rfl))
 f301:=Tryz.func223.trans (congrArg some (by kernel_rfl))
 f328:=Tryz.func275.trans (congrArg some (by kernel_rfl))
 f329:=Tryz.func276.trans (congrArg some (by kernel_rfl))
 f330:=Tryz.func277.trans (congrArg some (by kernel_rfl))
 f331:=Tryz.func278.trans (congrArg some (by kernel_rfl))
 f332:=Tryz.func279.trans (congrArg some (by kernel_rfl))
 f343:=Tryz.func324.trans (congrArg some (by kernel_rfl))
 t0:=Tryz.underlying0
 a0:=Tryz.isAgg0
 z0:=Tryz.sizeOf0
 v0:=Tryz.zeroValue0
 t3:=Tryz.underlying3
 a3:=Tryz.isAgg3
 z3:=Tryz.sizeOf3
 v3:=Tryz.zeroValue3
 t4:=Tryz.underlying4
 a4:=Tryz.isAgg4
 z4:=Tryz.sizeOf4
 v4:=Tryz.zeroValue4
 t5:=Tryz.underlying5
 a5:=Tryz.isAgg5
 z5:=Tryz.sizeOf5
 v5:=Tryz.zeroValue5
 t9:=Tryz.underlying9
 a9:=Tryz.isAgg9
 z9:=Tryz.sizeOf9
 v9:=Tryz.zeroValue9
 t28:=Tryz.underlying33
 a28:=Tryz.isAgg33
 z28:=Tryz.sizeOf33
 v28:=Tryz.zeroValue33
 t46:=Tryz.underlying262
 a46:=Tryz.isAgg262
 z46:=Tryz.sizeOf262
 v46:=Tryz.zeroValue262
 t51:=Tryz.underlying309
 a51:=Tryz.isAgg309
 z51:=Tryz.sizeOf309
 v51:=Tryz.zeroValue309
 t53:=Tryz.underlying311
 a53:=Tryz.isAgg311
 z53:=Tryz.sizeOf311
 v53:=Tryz.zeroValue311
 t131:=Tryz.underlying128
 a131:=Tryz.isAgg128
 z131:=Tryz.sizeOf128
 v131:=Tryz.zeroValue128
 t182:=Tryz.underlying302
 a182:=Tryz.isAgg302
 z182:=Tryz.sizeOf302
 v182:=Tryz.zeroValue302
 t183:=Tryz.underlying303
 a183:=Tryz.isAgg303
 z183:=Tryz.sizeOf303
 v183:=Tryz.zeroValue303
 t218:=Tryz.underlying352
 a218:=Tryz.isAgg352
 z218:=Tryz.sizeOf352
 v218:=Tryz.zeroValue352
 t222:=Tryz.underlying356
 a222:=Tryz.isAgg356
 z222:=Tryz.sizeOf356
 v222:=Tryz.zeroValue356
 t228:=Tryz.underlying393
 a228:=Tryz.isAgg393
 z228:=Tryz.sizeOf393
 v228:=Tryz.zeroValue393
 t229:=Tryz.underlying75
 a229:=Tryz.isAgg75
 z229:=Tryz.sizeOf75
 v229:=Tryz.zeroValue75 }
def Tryz.laysGrow_ren:Go.Shelf.Ren:=⟨fun | 4=>187 | n=>n,fun | 22=>28 | 25=>93 | 3=>3 | 4=>4 | 9=>9 | 20=>20 | 0=>0 | n=>n,fun | n=>n⟩
theorem Tryz.laysGrow:Go.Proofs.Lays8.n4 Tryz.prog Tryz.laysGrow_ren:={
 mixed:=by kernel_rfl
 f4:=⟨"slices.Grow[[]layover/sheet.Record,layover/sheet.Record]",by decide,Tryz.func187.trans (congrArg some (by kernel_rfl))⟩
 t0:=Tryz.underlying0
 a0:=Tryz.isAgg0
 z0:=Tryz.sizeOf0
 v0:=Tryz.zeroValue0
 t3:=Tryz.underlying3
 a3:=Tryz.isAgg3
 z3:=Tryz.sizeOf3
 v3:=Tryz.zeroValue3
 t4:=Tryz.underlying4
 a4:=Tryz.isAgg4
 z4:=Tryz.sizeOf4
 v4:=Tryz.zeroValue4
 t9:=Tryz.underlying9
 a9:=Tryz.isAgg9
 z9:=Tryz.sizeOf9
 v9:=Tryz.zeroValue9
 t20:=Tryz.underlying20
 a20:=Tryz.isAgg20
 z20:=Tryz.sizeOf20
 v20:=Tryz.zeroValue20
 t22:=Tryz.underlying28
 a22:=Tryz.isAgg28
 z22:=Tryz.sizeOf28
 v22:=Tryz.zeroValue28 }
def Tryz.laysSR_ren:Go.Shelf.Ren:=⟨fun | 6=>132 | 15=>161 | 14=>188 | 28=>224 | 29=>225 | 20=>250 | 21=>251 | 22=>252 | 23=>253 | 24=>254 | 25=>255 | 26=>256 | 27=>257 | 46=>305 | 47=>276 | 48=>277 | 49=>306 | 50=>307 | 57=>339 | n=>n,fun | 22=>28 | 24=>93 | 25=>231 | 3=>3 | 39=>262 | 0=>0 | 53=>309 | 55=>311 | 4=>4 | 46=>303 | 45=>302 | 50=>128 | 5=>5 | 9=>9 | 66=>352 | 70=>356 | 76=>393 | 77=>75 | n=>n,fun | n=>n⟩
theorem Tryz.laysSR:Go.Proofs.SlLaysF0.n6 Tryz.prog Tryz.laysSR_ren:={
 mixed:=by kernel_rfl
 f6:=⟨"slices.SortFunc[[]layover/sheet.Record,layover/sheet.Record]",by decide,Tryz.func132.trans (congrArg some (by kernel_rfl))⟩
 f14:=⟨"slices.pdqsortCmpFunc[layover/sheet.Record]",by decide,Tryz.func188.trans (congrArg some (by kernel_rfl))⟩
 f15:=Tryz.func161.trans (congrArg some (by kernel_rfl))
 f20:=⟨"slices.insertionSortCmpFunc[layover/sheet.Record]",by decide,Tryz.func250.trans (congrArg some (by kernel_rfl))⟩
 f21:=⟨"slices.heapSortCmpFunc[layover/sheet.Record]",by decide,Tryz.func251.trans (congrArg some (by kernel_rfl))⟩
 f22:=⟨"slices.breakPatternsCmpFunc[layover/sheet.Record]",by decide,Tryz.func252.trans (congrArg some (by kernel_rfl))⟩
 f23:=⟨"slices.choosePivotCmpFunc[layover/sheet.Record]",by decide,Tryz.func253.trans (congrArg some (by kernel_rfl))⟩
 f24:=⟨"slices.reverseRangeCmpFunc[layover/sheet.Record]",by decide,Tryz.func254.trans (congrArg some (by kernel_rfl))⟩
 f25:=⟨"slices.partialInsertionSortCmpFunc[layover/sheet.Record]",by decide,Tryz.func255.trans (congrArg some (by kernel_rfl))⟩
 f26:=⟨"slices.partitionEqualCmpFunc[layover/sheet.Record]",by decide,Tryz.func256.trans (congrArg some (by kernel_rfl))⟩
 f27:=⟨"slices.partitionCmpFunc[layover/sheet.Record]",by decide,Tryz.func257.trans (congrArg some (by kernel_rfl))⟩
 f28:=Tryz.func224.trans (congrArg some (by kernel_rfl))
 f29:=Tryz.func225.trans (congrArg some (by kernel_rfl))
 f46:=⟨"slices.siftDownCmpFunc[layover/sheet.Record]",by decide,Tryz.func305.trans (congrArg some (by kernel_rfl))⟩
 f47:=Tryz.func276.trans (congrArg some (by kernel_rfl))
 f48:=Tryz.func277.trans (congrArg some (by kernel_rfl))
 f49:=⟨"slices.medianAdjacentCmpFunc[layover/sheet.Record]",by decide,Tryz.func306.trans (congrArg some (by kernel_rfl))⟩
 f50:=⟨"slices.medianCmpFunc[layover/sheet.Record]",by decide,Tryz.func307.trans (congrArg some (by kernel_rfl))⟩
 f57:=⟨"slices.order2CmpFunc[layover/sheet.Record]",by decide,Tryz.func339.trans (congrArg some (by kernel_rfl))⟩
 t0:=Tryz.underlying0
 a0:=Tryz.isAgg0
 z0:=Tryz.sizeOf0
 v0:=Tryz.zeroValue0
 t3:=Tryz.underlying3
 a3:=Tryz.isAgg3
 z3:=Tryz.sizeOf3
 v3:=Tryz.zeroValue3
 t4:=Tryz.underlying4
 a4:=Tryz.isAgg4
 z4:=Tryz.sizeOf4
 v4:=Tryz.zeroValue4
 t5:=Tryz.underlying5
 a5:=Tryz.isAgg5
 z5:=Tryz.sizeOf5
 v5:=Tryz.zeroValue5
 t9:=Tryz.underlying9
 a9:=Tryz.isAgg9
 z9:=Tryz.sizeOf9
 v9:=Tryz.zeroValue9
 t22:=Tryz.underlying28
 a22:=Tryz.isAgg28
 z22:=Tryz.sizeOf28
 v22:=Tryz.zeroValue28
 t25:=Tryz.underlying231
 a25:=Tryz.isAgg231
 z25:=Tryz.sizeOf231
 v25:=Tryz.zeroValue231
 t39:=Tryz.underlying262
 a39:=Tryz.isAgg262
 z39:=Tryz.sizeOf262
 v39:=Tryz.zeroValue262
 t45:=Tryz.underlying302
 a45:=Tryz.isAgg302
 z45:=Tryz.sizeOf302
 v45:=Tryz.zeroValue302
 t46:=Tryz.underlying303
 a46:=Tryz.isAgg303
 z46:=Tryz.sizeOf303
 v46:=Tryz.zeroValue303
 t50:=Tryz.underlying128
 a50:=Tryz.isAgg128
 z50:=Tryz.sizeOf128
 v50:=Tryz.zeroValue128
 t53:=Tryz.underlying309
 a53:=Tryz.isAgg309
 z53:=Tryz.sizeOf309
 v53:=Tryz.zeroValue309
 t55:=Tryz.underlying311
 a55:=Tryz.isAgg311
 z55:=Tryz.sizeOf311
 v55:=Tryz.zeroValue311
 t66:=Tryz.underlying352
 a66:=Tryz.isAgg352
 z66:=Tryz.sizeOf352
 v66:=Tryz.zeroValue352
 t70:=Tryz.underlying356
 a70:=Tryz.isAgg356
 z70:=Tryz.sizeOf356
 v70:=Tryz.zeroValue356
 t76:=Tryz.underlying393
 a76:=Tryz.isAgg393
 z76:=Tryz.sizeOf393
 v76:=Tryz.zeroValue393
 t77:=Tryz.underlying75
 a77:=Tryz.isAgg75
 z77:=Tryz.sizeOf75
 v77:=Tryz.zeroValue75 }
def Tryz.laysSB_ren:Go.Shelf.Ren:=⟨fun | 6=>179 | 15=>161 | 14=>243 | 28=>224 | 29=>225 | 20=>289 | 21=>290 | 22=>291 | 23=>292 | 24=>293 | 25=>294 | 26=>295 | 27=>296 | 46=>333 | 47=>276 | 48=>277 | 49=>334 | 50=>335 | 57=>347 | n=>n,fun | 22=>214 | 24=>280 | 25=>283 | 3=>3 | 39=>262 | 0=>0 | 53=>309 | 55=>311 | 4=>4 | 46=>303 | 45=>302 | 50=>128 | 5=>5 | 9=>9 | 66=>352 | 70=>356 | 76=>393 | 77=>75 | n=>n,fun | n=>n⟩
theorem Tryz.laysSB:Go.Proofs.SlLaysF0.n6 Tryz.prog Tryz.laysSB_ren:={
 mixed:=by kernel_rfl
 f6:=⟨"slices.SortFunc[[]layover/roster.Breach,layover/roster.Breach]",by decide,Tryz.func179.trans (congrArg some (by kernel_rfl))⟩
 f14:=⟨"slices.pdqsortCmpFunc[layover/roster.Breach]",by decide,Tryz.func243.trans (congrArg some (by kernel_rfl))⟩
 f15:=Tryz.func161.trans (congrArg some (by kernel_rfl))
 f20:=⟨"slices.insertionSortCmpFunc[layover/roster.Breach]",by decide,Tryz.func289.trans (congrArg some (by kernel_rfl))⟩
 f21:=⟨"slices.heapSortCmpFunc[layover/roster.Breach]",by decide,Tryz.func290.trans (congrArg some (by kernel_rfl))⟩
 f22:=⟨"slices.breakPatternsCmpFunc[layover/roster.Breach]",by decide,Tryz.func291.trans (congrArg some (by kernel_rfl))⟩
 f23:=⟨"slices.choosePivotCmpFunc[layover/roster.Breach]",by decide,Tryz.func292.trans (congrArg some (by kernel_rfl))⟩
 f24:=⟨"slices.reverseRangeCmpFunc[layover/roster.Breach]",by decide,Tryz.func293.trans (congrArg some (by kernel_rfl))⟩
 f25:=⟨"slices.partialInsertionSortCmpFunc[layover/roster.Breach]",by decide,Tryz.func294.trans (congrArg some (by kernel_rfl))⟩
 f26:=⟨"slices.partitionEqualCmpFunc[layover/roster.Breach]",by decide,Tryz.func295.trans (congrArg some (by kernel_rfl))⟩
 f27:=⟨"slices.partitionCmpFunc[layover/roster.Breach]",by decide,Tryz.func296.trans (congrArg some (by kernel_rfl))⟩
 f28:=Tryz.func224.trans (congrArg some (by kernel_rfl))
 f29:=Tryz.func225.trans (congrArg some (by kernel_rfl))
 f46:=⟨"slices.siftDownCmpFunc[layover/roster.Breach]",by decide,Tryz.func333.trans (congrArg some (by kernel_rfl))⟩
 f47:=Tryz.func276.trans (congrArg some (by kernel_rfl))
 f48:=Tryz.func277.trans (congrArg some (by kernel_rfl))
 f49:=⟨"slices.medianAdjacentCmpFunc[layover/roster.Breach]",by decide,Tryz.func334.trans (congrArg some (by kernel_rfl))⟩
 f50:=⟨"slices.medianCmpFunc[layover/roster.Breach]",by decide,Tryz.func335.trans (congrArg some (by kernel_rfl))⟩
 f57:=⟨"slices.order2CmpFunc[layover/roster.Breach]",by decide,Tryz.func347.trans (congrArg some (by kernel_rfl))⟩
 t0:=Tryz.underlying0
 a0:=Tryz.isAgg0
 z0:=Tryz.sizeOf0
 v0:=Tryz.zeroValue0
 t3:=Tryz.underlying3
 a3:=Tryz.isAgg3
 z3:=Tryz.sizeOf3
 v3:=Tryz.zeroValue3
 t4:=Tryz.underlying4
 a4:=Tryz.isAgg4
 z4:=Tryz.sizeOf4
 v4:=Tryz.zeroValue4
 t5:=Tryz.underlying5
 a5:=Tryz.isAgg5
 z5:=Tryz.sizeOf5
 v5:=Tryz.zeroValue5
 t9:=Tryz.underlying9
 a9:=Tryz.isAgg9
 z9:=Tryz.sizeOf9
 v9:=Tryz.zeroValue9
 t22:=Tryz.underlying214
 a22:=Tryz.isAgg214
 z22:=Tryz.sizeOf214
 v22:=Tryz.zeroValue214
 t25:=Tryz.underlying283
 a25:=Tryz.isAgg283
 z25:=Tryz.sizeOf283
 v25:=Tryz.zeroValue283
 t39:=Tryz.underlying262
 a39:=Tryz.isAgg262
 z39:=Tryz.sizeOf262
 v39:=Tryz.zeroValue262
 t45:=Tryz.underlying302
 a45:=Tryz.isAgg302
 z45:=Tryz.sizeOf302
 v45:=Tryz.zeroValue302
 t46:=Tryz.underlying303
 a46:=Tryz.isAgg303
 z46:=Tryz.sizeOf303
 v46:=Tryz.zeroValue303
 t50:=Tryz.underlying128
 a50:=Tryz.isAgg128
 z50:=Tryz.sizeOf128
 v50:=Tryz.zeroValue128
 t53:=Tryz.underlying309
 a53:=Tryz.isAgg309
 z53:=Tryz.sizeOf309
 v53:=Tryz.zeroValue309
 t55:=Tryz.underlying311
 a55:=Tryz.isAgg311
 z55:=Tryz.sizeOf311
 v55:=Tryz.zeroValue311
 t66:=Tryz.underlying352
 a66:=Tryz.isAgg352
 z66:=Tryz.sizeOf352
 v66:=Tryz.zeroValue352
 t70:=Tryz.underlying356
 a70:=Tryz.isAgg356
 z70:=Tryz.sizeOf356
 v70:=Tryz.zeroValue356
 t76:=Tryz.underlying393
 a76:=Tryz.isAgg393
 z76:=Tryz.sizeOf393
 v76:=Tryz.zeroValue393
 t77:=Tryz.underlying75
 a77:=Tryz.isAgg75
 z77:=Tryz.sizeOf75
 v77:=Tryz.zeroValue75 }
namespace YtkpgggfibljflaaGreatDoor
open Go Go.RowKit Go.Proofs Go.Shelf
open Rep (rep)
set_option maxHeartbeats 400000
def ZF:List Int→Int
 | []=>0
 | x::r=>if x=0 then ZF r else x
theorem JM {w:World} {cs:Array Value} {T:TypeId} {b o:Nat} {v:Value} (hb:b=w.heap.size) (h:cs[o]? = some v):(w.alloc (.cells cs T)).cell? ⟨b,o,none⟩=some v:=by
 subst hb
 unfold World.cell? World.alloc
 simp [h]
theorem ZG (b c:Nat) (x y:Int) (w:World) (h0:w.cell? ⟨b,0,none⟩=some (.int .i64 x)) (h1:w.cell? ⟨b,1,none⟩=some (.int .i64 y)) :
  Calls Tryz.prog 134 #[.slice (some ⟨b,0,none⟩) 2 c] w fun e w'=>e=.returned (.int .i64 (ZF [x,y]))∧w' = w:=by
 have e:ZF [x,y]=if x=0 then if y=0 then 0 else y else x:=rfl
 rw [e]
 go_enter Tryz.func134,Tryz.ntmps134
 go_wp2
 go_rounds 3
 all_goals simp_all [bodyPost,results,Tryz.results134,go_sem]
theorem ZH (b c:Nat) (x y z:Int) (w:World) (h0:w.cell? ⟨b,0,none⟩=some (.int .i64 x)) (h1:w.cell? ⟨b,1,none⟩=some (.int .i64 y)) (h2:w.cell? ⟨b,2,none⟩=some (.int .i64 z)) :
  Calls Tryz.prog 134 #[.slice (some ⟨b,0,none⟩) 3 c] w fun e w'=>e=.returned (.int .i64 (ZF [x,y,z]))∧w' = w:=by
 have e:ZF [x,y,z]=if x=0 then if y=0 then if z=0 then 0 else z else y else x:=rfl
 rw [e]
 go_enter Tryz.func134,Tryz.ntmps134
 go_wp2
 go_rounds 4
 all_goals simp_all [bodyPost,results,Tryz.results134,go_sem]
theorem X2 (m1 s1 t1 k1 a1 b1 m2 s2 t2 k2 a2 b2:Int) (W:World) (hm : -9223372036854775808≤m1-m2∧m1-m2≤9223372036854775807) (hs : -9223372036854775808≤s1-s2∧s1-s2≤9223372036854775807) :
  Calls Tryz.prog 133 #[.agg #[.int .i64 m1,.int .i64 s1,.int .i64 t1,.int .u8 k1,.int .i64 a1,.int .i64 b1],.agg #[.int .i64 m2,.int .i64 s2,.int .i64 t2,.int .u8 k2,.int .i64 a2,.int .i64 b2]] W fun e w'=>e=.returned (.int .i64 (ZF [m1-m2,s1-s2]))∧∃ q os',w' = Go.Sort.grow (W.drewN q) os':=by
 obtain⟨hm1,hm2⟩:=hm
 obtain⟨hs1,hs2⟩:=hs
 have hcon:=fun b c W' h0 h1=>ZG b c (m1-m2) (s1-s2) W' h0 h1
 generalize ZF [m1-m2,s1-s2]=r at hcon ⊢
 go_enter Tryz.func133,Tryz.ntmps133
 go_wp2_with (go_at_call 134; refine(hcon _ _ _ (JM (by unfold World.alloc; simp) rfl) (JM (by unfold World.alloc; simp) rfl)).mono ?_; rintro e w' ⟨rfl,rfl⟩)
 go_ret
 exact⟨rfl,0,_,by rw [Go.Sort.alloc_eq_grow,Go.Sort.alloc_eq_grow,Go.Sort.alloc_eq_grow,Go.Sort.grow_grow,Go.Sort.grow_grow]; rfl⟩
theorem X3 (k1 d1 u1 k2 d2 u2:Int) (W:World) (hd : -9223372036854775808≤d1-d2∧d1-d2≤9223372036854775807) (hu : -9223372036854775808≤u1-u2∧u1-u2≤9223372036854775807) (h1:0≤k1∧k1≤255) (h2:0≤k2∧k2≤255) :
  Calls Tryz.prog 180 #[.agg #[.int .u8 k1,.int .i64 d1,.int .i64 u1],.agg #[.int .u8 k2,.int .i64 d2,.int .i64 u2]] W fun e w'=>e=.returned (.int .i64 (ZF [d1-d2,k1-k2,u1-u2]))∧∃ q os',w' = Go.Sort.grow (W.drewN q) os':=by
 obtain⟨hm1,hm2⟩:=hd
 obtain⟨hs1,hs2⟩:=hu
 obtain⟨ha1,ha2⟩:=h1
 obtain⟨hb1,hb2⟩:=h2
 have hcon:=fun b c W' h0 h1 h2=>ZH b c (d1-d2) (k1-k2) (u1-u2) W' h0 h1 h2
 generalize ZF [d1-d2,k1-k2,u1-u2]=r at hcon ⊢
 go_enter Tryz.func180,Tryz.ntmps180
 go_wp2_with (go_at_call 134; refine(hcon _ _ _ (JM (by unfold World.alloc; simp) rfl) (JM (by unfold World.alloc; simp) rfl) (JM (by unfold World.alloc; simp) rfl)).mono ?_; rintro e w' ⟨rfl,rfl⟩)
 go_ret
 exact⟨rfl,0,_,by rw [Go.Sort.alloc_eq_grow,Go.Sort.alloc_eq_grow,Go.Sort.alloc_eq_grow,Go.Sort.grow_grow,Go.Sort.grow_grow]; rfl⟩
theorem QY {w:World} {b:Nat} {us sp:List Value} {T:TypeId} (hb:w.heap[b]? = some (.cells (us++sp).toArray T (0,0))):Go.Sort.Holds id w b 0 us.toArray:=by
 intro j hj
 have hj':j<us.length:=by simpa using hj
 refine⟨?_,by simp [World.frozen?,hb]⟩
 simp only [World.cell?,hb,Zar]
 simp [hj',Zau hj']
theorem VY {w:World} {b n:Nat} {us sp us':List Value} {T:TypeId} {os:Array Obj} (hl:us'.length=us.length) (hb:w.heap[b]? = some (.cells (us++sp).toArray T (0,0))) :
  w.grownBy (Go.Sort.grow (Go.Sort.putRow id (Go.Sort.ahead w n) b 0 us'.toArray) os) (some b)∧(Go.Sort.grow (Go.Sort.putRow id (Go.Sort.ahead w n) b 0 us'.toArray) os).heap[b]? = some (.cells (us'++sp).toArray T (0,0)):=by
 have hg:b<w.heap.size:=(Zag.1 hb).1
 refine⟨⟨rfl,rfl,rfl,by simp,fun k hk hne=>?_⟩,?_⟩
 · rw [Go.Sort.heap_grow_old _ _ (by simpa using hk)]
   have:b≠k:=fun e=>hne (by rw [e])
   simp [Go.Sort.putRow,Go.Sort.mapBlock,Go.Sort.ahead,Zbb,this]
 · rw [Go.Sort.heap_grow_old _ _ (by simpa using hg)]
   simp only [Go.Sort.putRow,Go.Sort.mapBlock,Go.Sort.ahead,Zbb,hb,Go.Sort.onCells,if_true,Option.map_some]
   congr 2
   apply Array.ext_getElem?
   intro j
   simp only [Go.Sort.putCells,Array.getElem?_mapIdx,Zbg,Nat.zero_le,true_and,Zar,Nat.sub_zero,Zbs,id]
   by_cases hj:j<us'.length
   · rw [Zau hj,Zau (by omega),Zao (by omega:j<us.length),Zao hj]
     simp [hj]
   · rw [ZaO (by omega),ZaO (by omega),hl]
     have hj2 : ¬ j<us.length:=by omega
     simp only [hl,hj2,if_false]
     cases sp[j-us.length]? <;> rfl
theorem QZ {α T:Type} [Inhabited α] [Rep T] {h:Ad} {k:Nat} (enc:α→List Value) (f:α→T) (hk:Rep.sz T=k) (hlen:∀ x,(enc x).length=k) (he:∀ x cs,rep h (f x) cs→cs=enc x) (d:Array α) {us:List Value} (hc:Ar h (d.toList.map f) us):Go.Sort.flatK enc k d=us.toArray:=by
 have hl:=hc.len
 rw [ZaH,hk] at hl
 refine Go.Sort.ext_get! (by simp [hl]) fun t ht=>?_
 have ht':t<d.size*k:=by simpa using ht
 rw [Go.Sort.get_flatK _ _ _ _ ht']
 have k0:0<k:=by
  rcases ZaW k with h | h
  · subst h; simp at ht'
  · exact h
 have hd:t / k<d.size:=Nat.div_lt_of_lt_mul (by rw [Nat.mul_comm]; exact ht')
 obtain⟨cs,q1,q2⟩:=Ar.get (fun _=>trivial) hc (k:=t / k) (x:=f d[t / k]) (by simp [hd])
 have q3:=he _ _ q1
 have hm:t % k<(enc d[t / k]).length:=by rw [hlen]; exact Nat.mod_lt _ k0
 have q4:=q2 (t % k) ((enc d[t / k])[t % k]) (by rw [q3]; exact Zao hm)
 rw [hk,Nat.mul_comm,Nat.div_add_mod] at q4
 rw [getElem!_pos d _ hd,getElem!_pos (enc d[t / k]) _ hm]
 rw [Array.getElem!_eq_getD,ZaA,Zbs,q4]
 rfl
def AbU:Option Nat→List Value
 | none=>[]
 | some f=>[.func (.func f) #[] #[]]
theorem ZI {g:GE} {h:Ad} {o:Option Nat} (ho:∀ f,o=some f→f<An):∀ {r:List (V Ty)} {vs:List Value},TN o r=true→V.dens g h r vs→vs=AbU o:=by
 intro r vs hr hd
 unfold TN at hr
 split at hr
 · exact C4 hd
 · rename_i f f'
   have:=Zab hr
   subst this
   unfold V.dens V.dens at hd
   obtain⟨u,r',rfl,hu,rfl⟩:=hd
   unfold V.den V.dens at hu
   obtain⟨a1,b1,rfl,rfl,rfl⟩:=hu
   have h1:=ho _ rfl
   unfold Zi
   rw [if_neg (Nat.ne_of_lt h1),if_neg (Nat.ne_of_lt (Zai h1 (by decide)))]
   rfl
 · cases hr
theorem VZ {f:FuncId} {o:Option Nat} {k:Nat} {S:List (Ty k)→Option (List (Ty k))} (hlt:Nat.blt f An=true) (ho:∀ f,o=some f→f<An) (hS:∀ l l',S l=some l'→l'.length=l.length)
  (H:∀ (l l':List (Ty k))(b cap:Nat)(us sp:List Value)(w:World)(h:Ad),S l=some l'→Ar h l us→w.heap[b]? = some (.cells (us++sp).toArray k (0,0)) →
   Calls Tryz.prog f (Value.slice (some ⟨b,0,none⟩) l.length cap::AbU o).toArray w fun e w'=>e=.returned (.tuple #[])∧∃ us',Ar h l' us'∧w.grownBy w' (some b)∧w'.heap[b]? = some (.cells (us'++sp).toArray k (0,0)))
  (H0:∀ (w:World),Calls Tryz.prog f (Value.slice none 0 0::AbU o).toArray w fun e w'=>e=.returned (.tuple #[])∧w' = w):AX Tryz.prog f (ZdZ o k S):=by
 intro args n s r hr F h g w vals hm hin hargs hden
 unfold ZdZ at hr
 split at hr
 · rename_i k' i rs
   cases ho2:TN o rs with
   | false=>rw [ho2] at hr; cases hr
   | true =>
    rw [ho2,Zac] at hr
    split at hr
    · rename_i k2 l hrow
      split at hr
      · rename_i hk2
        subst hk2
        cases hb:Nat.beq k' k2 with
        | false=>rw [hb] at hr; cases hr
        | true =>
         rw [hb,Zac,Tr.runK_ask] at hr
         obtain⟨l',hl',hr⟩:=Zae.1 hr
         cases hr
         unfold V.dens at hden
         obtain⟨u,us0,rfl,hu,hd⟩:=hden
         rw [ZI ho ho2 hd]
         unfold V.den at hu
         have hi:i<n:=by
          have:=(Ao hargs).1
          exact Am.1 this
         have hc:=hm.cell i _ hrow
         obtain⟨hlen,hc⟩:=hc
         refine .of hlt ?_
         cases hn:(g i).nl with
         | true =>
          rw [hn,if_pos rfl] at hu hc
          rw [hu]
          have hl0:l=[]:=Za3 (by rw [hlen,hc])
          have hl1:l' = []:=Za3 (by rw [hS _ _ hl',hl0]; rfl)
          refine(H0 w).mono ?_
          rintro e w' ⟨rfl,rfl⟩
          refine⟨h,g,.tuple #[],Ad.le_refl _,fun _ _=>rfl,?_,HG.putC hin hi rfl,Zal _,rfl,by unfold V.den V.dens; exact⟨[],rfl,rfl⟩,rfl⟩
          subst hl0 hl1
          have hmm:=hm.less (M':=AL.get (AL.put s i (.row k2 []))) (fun j c hj=>by
           rw [AL.get_put] at hj
           split at hj
           · rename_i hij; subst hij; rw [hrow]; exact hj
           · exact hj)
          exact hmm
         | false =>
          rw [hn,if_neg (by simp)] at hu hc
          obtain⟨us,sp,q1,q2,q3,q4,q5⟩:=hc
          rw [hu,← hlen]
          refine(H l l' (g i).b (g i).c us sp w h hl' q2 q1).mono ?_
          rintro e w' ⟨rfl,us',p1,p2,p3⟩
          refine⟨h,g,.tuple #[],Ad.le_refl _,fun _ _=>rfl,?_,HG.putC hin hi rfl,Zal _,rfl,by unfold V.den V.dens; exact⟨[],rfl,rfl⟩,rfl⟩
          have hll:=hS _ _ hl'
          have hus:us'.length=us.length:=by rw [p1.len,q2.len,hll]
          have hmm:=hm.set (c':=.row k2 l') hrow hn p2 ⟨by rw [hll,hlen],by rw [hn,if_neg (by simp)]; exact⟨us',sp,p3,p1,by rw [← q3]; simp [hus],q4,q5⟩⟩
          exact hmm.less fun j c hj=>by
           rw [AL.get_put] at hj
           unfold Mo.put
           split at hj
           · rename_i hij; rw [if_pos hij.symm]; exact hj
           · rename_i hij; rw [if_neg (fun h=>hij h.symm)]; exact hj
      · cases hr
    · cases hr
 · cases hr
section
variable {α:Type} {le:α→α→Bool}
theorem NC (x:α):∀ l:List α,(VU le x l).Perm (x::l)
 | []=>List.Perm.refl _
 | y::r=>by
  unfold VU
  cases le x y with
  | true=>exact List.Perm.refl _
  | false=>exact((NC x r).cons y).trans (List.Perm.swap x y r)
theorem Ee:∀ l:List α,(Ev le l).Perm l
 | []=>List.Perm.refl _
 | x::r=>(NC x _).trans ((Ee r).cons x)
theorem Ov (ht:∀ a b c,le a b=true→le b c=true→le a c=true) (hT:∀ a b,le a b=false→le b a=true) (x:α):∀ {l:List α},l.Pairwise (fun a b=>le a b=true)→(VU le x l).Pairwise (fun a b=>le a b=true)
 | [],_=>List.pairwise_singleton _ _
 | y::r,h=>by
  obtain⟨h1,h2⟩:=ZaK.1 h
  unfold VU
  cases hb:le x y with
  | true=>exact ZaK.2 ⟨fun z hz=>(Zam.1 hz).elim (fun e=>e▸hb) fun hz=>ht _ _ _ hb (h1 z hz),h⟩
  | false=>exact ZaK.2 ⟨fun z hz=>(Zam.1 ((NC x r).mem_iff.1 hz)).elim (fun e=>e▸hT _ _ hb) fun hz=>h1 z hz,Ov ht hT x h2⟩
theorem Hx (ht:∀ a b c,le a b=true→le b c=true→le a c=true) (hT:∀ a b,le a b=false→le b a=true):∀ l:List α,(Ev le l).Pairwise (fun a b=>le a b=true)
 | []=>List.Pairwise.nil
 | x::r=>Ov ht hT x (Hx ht hT r)
theorem Wa {eq:α→α→Bool} (hs:∀ a b,eq a b=eq b a) (hr:∀ a,eq a a=true):∀ {l:List α},CO eq l=true→∀ a∈l,∀ b∈l,eq a b=true→a=b
 | [],_,a,ha,_,_,_=>by simp at ha
 | x::r,h,a,ha,b,hb,he=>by
  obtain⟨h1,h2⟩:=Ao h
  have h1:∀ y∈r,eq x y=false:=fun y hy=>by
   have:r.any (eq x)=false:=by simpa using h1
   have:=List.any_eq_false.1 this y hy
   simpa using this
  rcases Zam.1 ha with ha | ha <;> rcases Zam.1 hb with hb | hb
  · rw [ha,hb]
  · rw [ha,h1 b hb] at he; cases he
  · rw [hb,hs,h1 a ha] at he; cases he
  · exact Wa hs hr h2 a ha b hb he
end
theorem Ra {h:Ad}:∀ {l:List Int} {xs:List Value},Ar h l xs→xs=l.map (Value.int .i64)
 | [],xs,hc=>hc
 | x::l,xs,hc=>by
  obtain⟨cs,rest,rfl,hx,hr⟩:=hc
  have hx':cs=[Value.int .i64 x]:=hx
  rw [hx',Ra hr]; rfl
theorem MC (h:Ad):∀ (l:List Int),Ar h l (l.map (Value.int .i64))
 | []=>rfl
 | x::l=>⟨[.int .i64 x],_,rfl,rfl,MC h l⟩
theorem Rb {l l':List Int} (h:Xt l=some l'):l.length<4611686018427387904∧l.mergeSort (fun x y=>decide (x≤y))=l':=by
 unfold Xt at h
 cases hb:Nat.blt (AZ l) 4611686018427387904 with
 | false=>rw [hb] at h; cases h
 | true =>
  rw [hb,Zac] at h
  cases h
  rw [A5] at hb
  refine⟨by simpa using hb,?_⟩
  have hp:(l.mergeSort fun x y=>decide (x≤y)).Perm (Ev (fun a b=>decide (a≤b)) l):=(List.mergeSort_perm _ _).trans (Ee l).symm
  have h1:=List.pairwise_mergeSort (le:=fun x y:Int=>decide (x≤y)) (fun a b c h1 h2=>by simp at *; omega) (fun a b=>by simp; omega) l
  have h2:=Hx (le:=fun x y:Int=>decide (x≤y)) (fun a b c h1 h2=>by simp at *; omega) (fun a b h=>by simp at *; omega) l
  exact hp.eq_of_pairwise (fun a b _ _ x y=>by simp at x y; omega) h1 h2
theorem Wb (n:Nat):AX Tryz.prog 108 (ZeG n):=by
 refine VZ rfl (fun f h=>by cases h) (fun l l' h=>?_) (fun l l' b cap us sp w h hl hc hb=>?_) (fun w=>Any.slices_Sort_int_none Tryz.laysSort none 0 w)
 · rw [← (Rb h).2]; exact List.length_mergeSort l
 · obtain⟨h1,h2⟩:=Rb hl
   change List Int at l l'
   have hu:=Ra hc
   subst hu
   have hg:=(Zag.1 hb).1
   have hh:=QY hb
   have hH:Go.Sort.Holds (Value.int .i64) w b 0 l.toArray:=by
    intro j hj
    have hj':j<l.length:=by simpa using hj
    have:=hh j (by simpa using hj')
    simpa [hj'] using this
   refine(Any.slices_Sort_int Tryz.laysSort b 0 cap l w hH hg h1).mono ?_
   rintro e w' ⟨rfl,q,os,rfl⟩
   rw [h2]
   have hlen:l'.length=l.length:=by rw [← h2]; exact List.length_mergeSort l
   have hp:Go.Sort.putRow (Value.int .i64) (Go.Sort.ahead w q) b 0 l'.toArray=Go.Sort.putRow id (Go.Sort.ahead w q) b 0 (l'.map (Value.int .i64)).toArray:=by
    unfold Go.Sort.putRow
    congr 1
    funext c
    unfold Go.Sort.putCells
    apply Array.ext_getElem?
    intro j
    simp only [Array.getElem?_mapIdx,Zbg,ZaH,id]
    cases c[j]? with
    | none=>rfl
    | some x =>
     by_cases hj:j<l'.length
     · simp [hj]
     · simp [hj]
   rw [hp]
   obtain⟨p1,p2⟩:=VY (n:=q) (os:=os) (us':=l'.map (Value.int .i64)) (by simp [hlen]) hb
   exact⟨rfl,_,MC h l',p1,p2⟩
theorem Wc {f g:FuncId} {k sz:Nat} {ρ:Ren} {S:List (Ty k)→Option (List (Ty k))} (L:SlLaysF0.n6 Tryz.prog ρ) (hf:ρ.f 6=f) (aE:∀ w,(isAgg (ρ.t 24)).run Tryz.prog w=.ok true w) (zE:∀ w,(Go.sizeOf (ρ.t 24)).run Tryz.prog w=.ok sz w)
  (hlt:Nat.blt f An=true) (hg:g<An) (ok:Ty k→Bool) (d0:Ty k) (hd0:ok d0=true) (enc:Ty k→List Value) (hk:∀ x,(enc x).length=sz) (h1:∀ x,∀ v∈enc x,v.oneCell' = true) (hsz:Rep.sz (Ty k)=sz)
  (hr1:∀ h x cs,rep h x cs→cs=enc x) (hr2:∀ h x,rep h x (enc x)) (cf:Ty k→Ty k→Int) (le eq:Ty k→Ty k→Bool)
  (hS:∀ l l',S l=some l'→l.length<4611686018427387904∧(∀ x∈l,ok x=true)∧CO eq l=true∧l' = Ev le l)
  (hcf:∀ x y,ok x=true→ok y=true→(cf x y<0↔le y x=false)) (ht:∀ a b c,le a b=true→le b c=true→le a c=true) (hT:∀ a b,le a b=false→le b a=true) (he:∀ a b,le a b=true→le b a=true→eq a b=true)
  (he1:∀ a b,eq a b=eq b a) (he2:∀ a,eq a a=true) (eg:∀ args w,(callFunc g args).run Tryz.prog w=.ok (.enter g args) w)
  (hcmp:∀ x y,ok x=true→ok y=true→∀ W,Calls Tryz.prog g #[.agg (enc x).toArray,.agg (enc y).toArray] W fun e w'=>e=.returned (.int .i64 (cf x y))∧∃ q os',w' = Go.Sort.grow (W.drewN q) os'):AX Tryz.prog f (ZdZ (some g) k S):=by
 refine VZ hlt (fun f h=>by cases h; exact hg) (fun l l' h=>?_) (fun l l' b cap us sp w h hl hc hb=>?_) (fun w=>?_)
 · rw [(hS _ _ h).2.2.2]; exact(Ee l).length_eq
 · obtain⟨q1,q2,q3,q4⟩:=hS _ _ hl
   letI:Inhabited {x:Ty k // ok x=true}:=⟨⟨d0,hd0⟩⟩
   let dl:List {x:Ty k // ok x=true}:=l.pmap (fun x hx=>⟨x,hx⟩) q2
   have hdl:dl.map Subtype.val=l:=by simp [dl,List.map_pmap]
   have hdn:dl.length=l.length:=by simp [dl]
   have hg:=(Zag.1 hb).1
   have hO:Go.Sort.SWO (Go.Proofs.ltOf fun x y : {x:Ty k // ok x=true}=>cf x.1 y.1):=by
    have e:∀ x y : {x:Ty k // ok x=true},Go.Proofs.ltOf (fun x y : {x:Ty k // ok x=true}=>cf x.1 y.1) x y=!le y.1 x.1:=fun x y=>by
     unfold Go.Proofs.ltOf
     have:=hcf x.1 y.1 x.2 y.2
     cases hh:le y.1 x.1 with
     | true=>rw [hh] at this; simpa using this
     | false=>rw [hh] at this; simpa using this
    have r:∀ a,le a a=true:=fun a=>by
     cases hh:le a a with
     | true=>rfl
     | false=>have:=hT _ _ hh; rw [hh] at this; cases this
    refine⟨fun x=>by rw [e,r]; rfl,fun x y z a c=>?_,fun x y z a c=>?_⟩
    · rw [e] at *
      have a:le y.1 x.1=false:=by simpa using a
      have c:le z.1 y.1=false:=by simpa using c
      cases hh:le z.1 x.1 with
      | false=>rfl
      | true=>rw [ht _ _ _ hh (hT _ _ a)] at c; cases c
    · rw [e] at *
      have a:le y.1 x.1=true:=by simpa using a
      have c:le z.1 y.1=true:=by simpa using c
      rw [ht _ _ _ c a]; rfl
   have hfl:Go.Sort.flatK (fun x : {x:Ty k // ok x=true}=>enc x.1) sz dl.toArray=us.toArray:=QZ (fun x : {x:Ty k // ok x=true}=>enc x.1) Subtype.val hsz (fun x=>hk x.1) (fun x cs h=>hr1 _ _ _ h) dl.toArray (by simpa [hdl] using hc)
   have hH:Go.Sort.HoldsK (fun x : {x:Ty k // ok x=true}=>enc x.1) sz w b 0 dl.toArray:=by unfold Go.Sort.HoldsK; rw [hfl]; exact QY hb
   have c:=AnyQ.slices_SortFunc L sz aE zE (fun x : {x:Ty k // ok x=true}=>enc x.1) (fun x=>hk x.1) (fun x=>h1 x.1) (fun x y=>cf x.1 y.1) hO g #[] b 0 cap dl.toArray w eg (fun _ _ _ _ x y=>hcmp x.1 y.1 x.2 y.2 _) hH hg (by simpa [hdn] using q1)
   rw [hf] at c
   have hds:dl.toArray.size=l.length:=by simp [hdn]
   rw [hds] at c
   refine c.mono ?_
   rintro e w' ⟨rfl,d',n,os,hp,hs,rfl⟩
   obtain⟨p1,p2,p3⟩:=hp
   have hd':d'.size=l.length:=by rw [p1,hds]
   have hpm:d'.toList.Perm dl:=by
    have e1:d'.extract 0 l.length=d':=by rw [← hd']; simp
    have e2:dl.toArray.extract 0 l.length=dl.toArray:=by rw [← hds]; simp
    rw [e1,e2] at p3
    exact p3
   have hpl:(d'.toList.map Subtype.val).Perm l:=by have:=hpm.map Subtype.val; rwa [hdl] at this
   have hsr:(d'.toList.map Subtype.val).Pairwise (fun a b=>le a b=true):=by
    rw [List.pairwise_map,List.pairwise_iff_getElem]
    intro i j hi hj hij
    have hj':j<d'.size:=by simpa using hj
    have hi':i<d'.size:=by simpa using hi
    have:=hs i j (Nat.zero_le _) hij (by omega)
    rw [getElem!_pos d' j hj',getElem!_pos d' i hi'] at this
    unfold Go.Proofs.ltOf at this
    have h3:=hcf (d'[j]'hj').1 (d'[i]'hi').1 (d'[j]'hj').2 (d'[i]'hi').2
    have h4 : ¬ cf (d'[j]'hj').1 (d'[i]'hi').1<0:=by simpa using this
    cases hh:le (d'[i]'hi').1 (d'[j]'hj').1 with
    | true=>simpa using hh
    | false=>exact absurd (h3.2 hh) h4
   have hl2:d'.toList.map Subtype.val=l':=by
    rw [q4]
    refine(hpl.trans (Ee l).symm).eq_of_pairwise (fun a c ha hc x y=>?_) hsr (Hx ht hT l)
    exact Wa he1 he2 q3 a (hpl.mem_iff.1 ha) c ((Ee l).mem_iff.1 hc) (he _ _ x y)
   have hcl:∀ m:List (Ty k),Ar h m (m.flatMap enc):=fun m=>by
    induction m with
    | nil=>rfl
    | cons x r ih=>exact⟨enc x,r.flatMap enc,rfl,hr2 h x,ih⟩
   have hf2:Go.Sort.flatK (fun x : {x:Ty k // ok x=true}=>enc x.1) sz d' = (l'.flatMap enc).toArray:=QZ (fun x : {x:Ty k // ok x=true}=>enc x.1) Subtype.val hsz (fun x=>hk x.1) (fun x cs h=>hr1 _ _ _ h) d' (by rw [hl2]; exact hcl l')
   have hul:(l'.flatMap enc).length=us.length:=by
    rw [(hcl l').len,hc.len,← hl2]; simp [hd']
   obtain⟨r1,r2⟩:=VY (n:=n) (os:=os) (us':=l'.flatMap enc) hul hb
   rw [← hf2] at r1 r2
   exact⟨rfl,_,hcl l',r1,r2⟩
 · have:=AnyF.slices_SortFunc_none L none 0 (.func (.func g) #[] #[]) w
   rw [hf] at this
   exact this
def Adj (x:Ab):List Value:=[.int .i64 x.machine,.int .i64 x.seq,.int .i64 x.minute,.int .u8 x.kind.n,.int .i64 x.a,.int .i64 x.b]
theorem AbV (h:Ad) (x:Ab) (cs:List Value):rep h x cs→cs=Adj x:=by
 rintro⟨c1,c2,rfl,rfl,c3,c4,rfl,rfl,c5,c6,rfl,rfl,c7,c8,rfl,rfl,c9,c10,rfl,rfl,rfl⟩
 rfl
theorem Adk (h:Ad) (x:Ab):rep h x (Adj x):=⟨_,_,rfl,rfl,_,_,rfl,rfl,_,_,rfl,rfl,_,_,rfl,rfl,_,_,rfl,rfl,rfl⟩
theorem Hy {x:Int} (h:TO x=true) : -4611686018427387904≤x∧x≤4611686018427387903:=by
 obtain⟨h1,h2⟩:=Ao h
 exact⟨of_decide_eq_true h1,of_decide_eq_true h2⟩
theorem ME (a b:Ab):Jl a b=true↔a.machine<b.machine∨a.machine=b.machine∧a.seq≤b.seq:=by
 unfold Jl; simp
theorem MF (a b:Ak):Aeo a b=true↔a.driver<b.driver∨a.driver=b.driver∧(a.kind.n<b.kind.n∨a.kind.n=b.kind.n∧a.duty≤b.duty):=by
 unfold Aeo; simp
theorem Adl (x y:Int):ZF [x,y]<0↔x<0∨x=0∧y<0:=by
 show(if x=0 then if y=0 then 0 else y else x)<0↔_
 split
 · split <;> omega
 · omega
theorem Adm (x y z:Int):ZF [x,y,z]<0↔x<0∨x=0∧(y<0∨y=0∧z<0):=by
 show(if x=0 then if y=0 then if z=0 then 0 else z else y else x)<0↔_
 split
 · split
   · split <;> omega
   · omega
 · omega
theorem Wd (n:Nat):AX Tryz.prog 132 (ZeH n) :=
 Wc (k:=93) (g:=133) (sz:=6) Tryz.laysSR rfl Tryz.isAgg93 Tryz.sizeOf93 rfl (by decide) (fun a:Ab=>TO a.machine && TO a.seq) (default:Ab) rfl Adj (fun _=>rfl) (fun x v hv=>by
     simp only [Adj,Zam,Zbj,or_false] at hv
     rcases hv with rfl | rfl | rfl | rfl | rfl | rfl <;> rfl) rfl AbV Adk (fun x y:Ab=>ZF [x.machine-y.machine,x.seq-y.seq]) Jl (fun a b:Ab=>a.machine == b.machine && a.seq == b.seq)
  (fun l l' h=>by
   change List Ab at l l'
   change Z4 l=some l' at h
   unfold Z4 at h
   cases hb:(Nat.blt (AZ l) 4611686018427387904 && l.all (fun a=>TO a.machine && TO a.seq) && CO (fun a b=>a.machine == b.machine && a.seq == b.seq) l) with
   | false=>rw [hb] at h; cases h
   | true =>
    rw [hb,Zac] at h
    cases h
    obtain⟨hb,h3⟩:=Ao hb
    obtain⟨h1,h2⟩:=Ao hb
    rw [A5] at h1
    exact⟨by simpa using h1,fun x hx=>ZaE.1 h2 x hx,h3,rfl⟩)
  (fun x y _ _=>by
   rw [Adl]
   have:=ME y x
   cases hh:Jl y x with
   | true=>have:=this.1 hh; simp; omega
   | false=>rw [hh] at this; simp at this ⊢; omega)
  (fun a b c h1 h2=>by rw [ME] at *; omega) (fun a b h=>by
   have:=ME a b
   rw [h] at this
   rw [ME]
   simp at this; omega)
  (fun a b h1 h2=>by rw [ME] at *; simp; omega) (fun a b=>by rw [Bool.beq_comm (a:=a.machine),Bool.beq_comm (a:=a.seq)]) (fun a=>by simp)
  (enters_of Tryz.func133 (by kernel_rfl) rfl)
  (fun x y hx hy W=>by
   obtain⟨x1,x2⟩:=Ao hx
   obtain⟨y1,y2⟩:=Ao hy
   have x1:=Hy x1
   have x2:=Hy x2
   have y1:=Hy y1
   have y2:=Hy y2
   exact X2 _ _ _ _ _ _ _ _ _ _ _ _ W (by omega) (by omega))
theorem AbW (h:Ad) (x:Ak) (cs:List Value):rep h x cs→cs=[.int .u8 x.kind.n,.int .i64 x.driver,.int .i64 x.duty]:=by
 rintro⟨c1,c2,rfl,rfl,c3,c4,rfl,rfl,rfl⟩
 rfl
theorem We (n:Nat):AX Tryz.prog 179 (ZeI n) :=
 Wc (k:=280) (g:=180) (sz:=3) Tryz.laysSB rfl Tryz.isAgg280 Tryz.sizeOf280 rfl (by decide) (fun a:Ak=>TO a.driver && TO a.duty && (decide (0≤a.kind.n) && decide (a.kind.n≤255))) (default:Ak) rfl (fun x:Ak=>[.int .u8 x.kind.n,.int .i64 x.driver,.int .i64 x.duty]) (fun _=>rfl) (fun x v hv=>by
     simp only [Zam,Zbj,or_false] at hv
     rcases hv with rfl | rfl | rfl <;> rfl) rfl AbW (fun h x=>⟨_,_,rfl,rfl,_,_,rfl,rfl,rfl⟩) (fun x y:Ak=>ZF [x.driver-y.driver,x.kind.n-y.kind.n,x.duty-y.duty]) Aeo (fun a b:Ak=>a.driver == b.driver && a.kind.n == b.kind.n && a.duty == b.duty)
  (fun l l' h=>by
   change List Ak at l l'
   change SB l=some l' at h
   unfold SB at h
   cases hb:(Nat.blt (AZ l) 4611686018427387904 && l.all (fun a=>TO a.driver && TO a.duty && (decide (0≤a.kind.n) && decide (a.kind.n≤255))) && CO (fun a b=>a.driver == b.driver && a.kind.n == b.kind.n && a.duty == b.duty) l) with
   | false=>rw [hb] at h; cases h
   | true =>
    rw [hb,Zac] at h
    cases h
    obtain⟨hb,h3⟩:=Ao hb
    obtain⟨h1,h2⟩:=Ao hb
    rw [A5] at h1
    exact⟨by simpa using h1,fun x hx=>ZaE.1 h2 x hx,h3,rfl⟩)
  (fun x y _ _=>by
   rw [Adm]
   have:=MF y x
   cases hh:Aeo y x with
   | true=>have:=this.1 hh; simp; omega
   | false=>rw [hh] at this; simp at this ⊢; omega)
  (fun a b c h1 h2=>by rw [MF] at *; omega) (fun a b h=>by
   have:=MF a b
   rw [h] at this
   rw [MF]
   simp at this; omega)
  (fun a b h1 h2=>by rw [MF] at *; simp; omega) (fun a b=>by rw [Bool.beq_comm (a:=a.driver),Bool.beq_comm (a:=a.kind.n),Bool.beq_comm (a:=a.duty)]) (fun a=>by simp)
  (enters_of Tryz.func180 (by kernel_rfl) rfl)
  (fun x y hx hy W=>by
   obtain⟨hx,x3⟩:=Ao hx
   obtain⟨hy,y3⟩:=Ao hy
   obtain⟨x1,x2⟩:=Ao hx
   obtain⟨y1,y2⟩:=Ao hy
   obtain⟨x3,x4⟩:=Ao x3
   obtain⟨y3,y4⟩:=Ao y3
   have x1:=Hy x1
   have x2:=Hy x2
   have y1:=Hy y1
   have y2:=Hy y2
   exact X3 _ _ _ _ _ _ W (by omega) (by omega) ⟨of_decide_eq_true x3,of_decide_eq_true x4⟩ ⟨of_decide_eq_true y3,of_decide_eq_true y4⟩)
end YtkpgggfibljflaaGreatDoor
end Go.Proofs
namespace Go.Proofs.YtkpgggfibljflaaGreatDoor
open Go Go.RowKit Go.Proofs Go.Shelf
open Rep (rep)
theorem X4 (k:Nat) (w:World) (hk:k≤1000000000):Calls Tryz.prog 187 #[.slice none 0 0,.int .i64 k] w fun en w' =>
  (en=.returned (.slice none 0 0)∧w' = w)∨∃ (c:Nat)(cur:Array Value),en=.returned (.slice (some ⟨w.heap.size,0,none⟩) 0 c)∧c≤maxLen∧cur.size=c*6∧w' = w.drew.alloc (.cells cur 93 (0,0)):=by
 rcases ZaW k with rfl | h0
 · refine(Any8.slices_Grow_room Tryz.laysGrow none 0 0 0 w (by omega) (by omega) (by omega) (by omega)).mono ?_
   rintro en w' ⟨rfl,rfl⟩
   exact .inl ⟨rfl,rfl⟩
 · obtain⟨ii,zv,e1,e2,e3,e4,e5,e6⟩:=Md (P:=Tryz.prog) (E:=93) (sz:=6) (bytes:=48) (by kernel_rfl)
   refine(Any8.slices_Grow_grow Tryz.laysGrow ii zv e1 e2 (by omega) none 0 0 k [] w (by omega) (by omega) (by rw [e4]; omega) (by omega) (by simp) (fun _=>rfl) (fun a ha=>by cases ha)).mono ?_
   rintro en w' ⟨rfl,rfl⟩
   refine .inr ⟨_,_,rfl,grownCap_le_maxLen w _ _ _ (by unfold maxLen; omega),?_,rfl⟩
   have hg:=grownCap_ge w (0+k) 0 (Tryz.laysGrow_ren.t 25)
   simp only [Array.size_append,size_zeroCells,e5]
   show([]:List Value).length+_*6+_*6=_
   simp only [Zbh]
   omega
theorem Wf (n:Nat):AX Tryz.prog 187 (ZdJ n):=by
 intro args k s r hr F h g w vals hm hin hargs hden
 unfold ZdJ at hr
 split at hr
 · rename_i m
   rw [Tr.runK_ask] at hr
   obtain⟨u,hu,hr⟩:=Zae.1 hr
   unfold AdE at hu
   cases hb:(decide (0≤m) && decide (m≤1000000000)) with
   | false=>rw [hb] at hu; cases hu
   | true =>
    obtain⟨b1,b2⟩:=Ao hb
    have b1:=of_decide_eq_true b1
    have b2:=of_decide_eq_true b2
    cases hr
    obtain⟨j,rfl⟩:∃ j:Nat,m=(j:Int):=⟨m.toNat,by omega⟩
    have hv:vals=[.slice none 0 0,.int .i64 (j:Int)]:=by
     unfold V.dens at hden
     obtain⟨u1,r1,rfl,e1,hd⟩:=hden
     obtain⟨r2,rfl,hd2⟩:=D5 hd
     rw [C4 hd2]
     unfold V.den at e1
     rw [e1]
    rw [hv]
    have hput:∀ {F:Fr} {h:Ad} {g:GE} {w:World},Ag F h g (Mo.put (AL.get s) k (some (.row 93 []))) w→Ag F h g (AL.get (AL.put s k (.row 93 []))) w:=fun hm=>hm.less fun i c hi=>by
     rw [AL.get_put] at hi
     unfold Mo.put
     split at hi
     · rename_i h; rw [if_pos h.symm]; exact hi
     · rename_i h; rw [if_neg (fun hh=>h hh.symm)]; exact hi
    have hins:HG (k+1) (AL.get (AL.put s k (.row 93 ([]:List (Ty 93))))):=HG.putC (EV.mono hin (Et (Nat.le_add_right k 1))) (by show k<k+1; omega) rfl
    refine .of rfl ((X4 j w (by omega)).mono ?_)
    rintro en w' (⟨rfl,rfl⟩ | ⟨c,cur,rfl,h1,h2,rfl⟩)
    · refine⟨h,F5 g k ⟨0,0,0,true⟩,.slice none 0 0,Ad.le_refl _,fun i hi=>CT (FW k) hi,hput (hm.newNil (FW k) hin rfl rfl),hins,by show k≤k+1; omega,?_,?_,rfl⟩
      · exact Am.2 (by show k<k+1; omega)
      · unfold V.den
        show _=if (F5 g k ⟨0,0,0,true⟩ k).nl=true then _ else _
        rw [BA]; rfl
    · have hsz:w.drew.heap.size=w.heap.size:=rfl
      have hg:w.grownBy (w.drew.alloc (.cells cur 93 (0,0))) none:=⟨rfl,rfl,rfl,by unfold World.alloc World.drew; simp,fun b hb _=>by unfold World.alloc World.drew; simp [ZaZ,Nat.ne_of_lt hb]⟩
      refine⟨h,F5 g k ⟨w.heap.size,0,c,false⟩,.slice (some ⟨w.heap.size,0,none⟩) 0 c,Ad.le_refl _,fun i hi=>CT (FW k) hi,hput (hm.newB (FW k) hin hg (Zal _) (by unfold World.alloc World.drew; simp) ?_),hins,by show k≤k+1; omega,?_,?_,rfl⟩
      · refine⟨rfl,?_⟩
        refine⟨[],cur.toList,?_,rfl,by rw [Za6,ZaG,h2]; rfl,Nat.zero_le _,h1⟩
        unfold World.alloc World.drew; simp
      · exact Am.2 (by show k<k+1; omega)
      · unfold V.den
        show _=if (F5 g k ⟨w.heap.size,0,c,false⟩ k).nl=true then _ else _
        rw [BA]; rfl
 · cases hr
end Go.Proofs.YtkpgggfibljflaaGreatDoor
