/- What a proof leans on: a machine that steps through code, and what functions compute. -/
import Derived.Test.YtkpgggfibljflaaGreatDoorgSS15
import Derived.Shelf.Strings.OnBuilder
set_option linter.all false
set_option maxRecDepth 100000
namespace Go.Proofs
def Tryz.laysJoin_ren:Go.Shelf.Ren:=⟨fun | 156=>92 | 165=>152 | 166=>91 | 169=>95 | 240=>151 | 241=>209 | 276=>208 | 277=>274 | n=>n,fun | 31=>22 | 9=>9 | 3=>3 | 4=>4 | 0=>0 | 20=>20 | 72=>163 | 76=>167 | 70=>161 | 37=>78 | 75=>166 | 127=>253 | 164=>297 | 5=>5 | 80=>172 | n=>n,fun | n=>n⟩
theorem Tryz.laysJoin:Go.Proofs.Lays.n156 Tryz.prog Tryz.laysJoin_ren:={
 mixed:=by kernel_rfl
 f156:=Tryz.func92.trans (congrArg some (by kernel_rfl))
 f165:=Tryz.func152.trans (congrArg some (by kernel_rfl))
 f166:=Tryz.func91.trans (congrArg some (by kernel_rfl))
 f169:=Tryz.func95.trans (congrArg some (by kernel_rfl))
 f240:=Tryz.func151.trans (congrArg some (by kernel_rfl))
 f241:=Tryz.func209.trans (congrArg some (by kernel_rfl))
 f276:=Tryz.func208.trans (congrArg some (by kernel_rfl))
 f277:=Tryz.func274.trans (congrArg some (by kernel_rfl))
 t0:=Tryz.underlying0
 a0:=Tryz.isAgg0
 z0:=Tryz.sizeOf0
 v0:=Tryz.zeroValue0
 t3:=Tryz.underlying3
 a3:=Tryz.isAgg3
 z3:=Tryz.sizeOf3
 v3:=Tryz.zeroValue3
 t4:=Tryz.underlying4
 a4:=Tryz.isAgg4
 z4:=Tryz.sizeOf4
 v4:=Tryz.zeroValue4
 t9:=Tryz.underlying9
 a9:=Tryz.isAgg9
 z9:=Tryz.sizeOf9
 v9:=Tryz.zeroValue9
 t20:=Tryz.underlying20
 a20:=Tryz.isAgg20
 z20:=Tryz.sizeOf20
 v20:=Tryz.zeroValue20
 t31:=Tryz.underlying22
 a31:=Tryz.isAgg22
 z31:=Tryz.sizeOf22
 v31:=Tryz.zeroValue22
 t37:=Tryz.underlying78
 a37:=Tryz.isAgg78
 z37:=Tryz.sizeOf78
 v37:=Tryz.zeroValue78
 t70:=Tryz.underlying161
 a70:=Tryz.isAgg161
 z70:=Tryz.sizeOf161
 v70:=Tryz.zeroValue161
 t72:=Tryz.underlying163
 a72:=Tryz.isAgg163
 z72:=Tryz.sizeOf163
 v72:=Tryz.zeroValue163
 t75:=Tryz.underlying166
 a75:=Tryz.isAgg166
 z75:=Tryz.sizeOf166
 v75:=Tryz.zeroValue166
 t76:=Tryz.underlying167
 a76:=Tryz.isAgg167
 z76:=Tryz.sizeOf167
 v76:=Tryz.zeroValue167
 t127:=Tryz.underlying253
 a127:=Tryz.isAgg253
 z127:=Tryz.sizeOf253
 v127:=Tryz.zeroValue253
 t164:=Tryz.underlying297
 a164:=Tryz.isAgg297
 z164:=Tryz.sizeOf297
 v164:=Tryz.zeroValue297 }
theorem Tryz.extraJoin:Builder.Extra Tryz.prog Tryz.laysJoin_ren where
 sizeBuilder:=by kernel_rfl
 liesBuilder:=by kernel_rfl
 t5:=Tryz.underlying5
 a5:=Tryz.isAgg5
 z5:=Tryz.sizeOf5
 v5:=Tryz.zeroValue5
 infoByte:=by kernel_rfl
 cellsByte:=by kernel_rfl
 sizeByte:=by kernel_rfl
 neB5:=by decide
namespace YtkpgggfibljflaaGreatDoor
open Go Go.RowKit Go.Proofs
open Rep (rep)
def EX (l:List ByteArray) (sep:ByteArray):ByteArray:=Ep (sep.data.toList.intercalate (l.map (·.data.toList)))
def Aid:List (Nat×C):=[(0,.l 9),(1,.s 9)]
def Aie:List Wo:=[⟨.ret,[],[],[.s 9]⟩]
def FJ (n:Nat) (l:List ByteArray) (sep:ByteArray):Option (ByteArray×Unit):=bif Nat.ble (Bm l) 100000 && Nat.ble (Bm (EX l sep).data.toList) 100000 then some (EX l sep,()) else none
noncomputable def Zgv (n:Nat):GL Ty:=Ui (FA Aid 0 Aie fun y=>FJ n y.1 y.2.1)
theorem AbN {M:Mo Ty} {F:Fr} {h:Ad} {g:GE} {w:World} (hm:Al F h g M w) (l:List ByteArray) (sep:ByteArray) (a:Option Addr) (c:Nat) (hr:Hd h a c l) (h1:l.length≤100000) (h2:(EX l sep).data.toList.length≤100000) :
  Calls Tryz.prog 92 #[.slice a l.length c,.string sep] w fun e w'=>e=.returned (.string (EX l sep))∧w.grownBy w' none:=by
 obtain⟨vs,hc,hs,hlc⟩:=hr
 have hlen:(Lib.join (l.map (·.data.toList)) sep.data.toList).length≤140737488355328:=by
  have:(EX l sep).data.toList.length=(Lib.join (l.map (·.data.toList)) sep.data.toList).length:=rfl
  omega
 cases l with
 | nil =>
  refine(Any.strings_Join_none Tryz.laysJoin Tryz.extraJoin a c sep w).mono ?_
  rintro e w' ⟨rfl,rfl⟩
  exact⟨rfl,Er (Below.refl _ _)⟩
 | cons x r =>
  have hvs:vs=(x::r).map Value.string:=by
   clear hs hlc h1 h2 hlen
   generalize x::r=l at hc
   induction l generalizing vs with
   | nil=>exact hc
   | cons y q ih =>
    obtain⟨c1,c2,rfl,e1,e2⟩:=hc
    have e1:c1=[.string y]:=e1
    rw [e1,ih _ e2]; rfl
  obtain⟨ad,rfl,hsp,hcl⟩:=hs 0 (.string x) (by rw [hvs]; rfl)
  obtain⟨bk,o,sp⟩:=ad
  have hsp:sp=none:=hsp
  subst hsp
  have hcells:∀ (j:Nat) y,(x::r)[j]? = some y→w.cell? ⟨bk,o+j,none⟩=some (.string y):=fun j y hj=>by
   obtain⟨ad,e1,_,e3⟩:=hs j (.string y) (by rw [hvs,ZaI,hj]; rfl)
   cases e1
   exact M7 (hm.has _ _ _ e3).2 rfl
  have hlt:bk<w.heap.size:=(hm.has _ _ _ hcl).1
  refine(Any.strings_Join Tryz.laysJoin Tryz.extraJoin bk o c (x::r) sep w hcells hlt (by omega) hlc hlen).mono ?_
  rintro e w' ⟨rfl,hb⟩
  exact⟨rfl,Er hb⟩
theorem Aak (n:Nat):Bb Tryz.prog 92 (Zgv n):=Ma (JY rfl fun x y hy F h g w vals R hm hin hd fin=>by
 obtain⟨l,sep,⟨⟩⟩:=x
 change List ByteArray at l
 change ByteArray at sep
 change (bif Nat.ble (Bm l) 100000 && Nat.ble (Bm (EX l sep).data.toList) 100000 then some (EX l sep,()) else none)=some y at hy
 cases hb:(Nat.ble (Bm l) 100000 && Nat.ble (Bm (EX l sep).data.toList) 100000) with
 | false=>rw [hb] at hy; cases hy
 | true =>
  rw [hb,Zab] at hy
  obtain⟨b1,b2⟩:=As hb
  rw [AC] at b1 b2
  have b1:l.length≤100000:=Zah b1
  have b2:(EX l sep).data.toList.length≤100000:=Zah b2
  change V.dens g h [(V.lst 9 (show List (Ty 9) from l):V Ty),.str sep] vals at hd
  unfold V.dens at hd
  obtain⟨u1,r1,e1,hu,hd1⟩:=hd
  obtain⟨v2,e2,hd2⟩:=Mb hd1
  unfold V.den at hu
  obtain⟨a,c,e3,hr⟩:=hu
  rw [e1,e2,Dx hd2,e3]
  refine(AbN hm l sep a c hr b1 b2).mono ?_
  rintro e w' ⟨rfl,hg⟩
  refine fin F h g w' ⟨[],[],2000⟩ false [.str (EX l sep)] [.string (EX l sep)] rfl (FD.refl F []) (Ad.le_refl h) (fun _ _=>rfl) (by show 2000≤2000; omega) ((hm.grow hg).less (fun i c hi=>by cases hi)) (fun i c hi=>by cases hi) ?_ (JZ (by unfold V.den; rfl)) rfl
  rw [← hy]; kernel_rfl)
end YtkpgggfibljflaaGreatDoor
end Go.Proofs
namespace Go.Proofs.YtkpgggfibljflaaGreatDoor
noncomputable section
open Go Go.RowKit Go.Proofs Go.Shelf
open Rep (rep)
theorem AgD {F:Fr} {h:Ad} {g:GE} {w:World} {s:A7 Ty} {i:Nat} {c:AE Ty} (hm:Al F h g (Mo.put (AL.get s) i (some c)) w):Al F h g (AL.get (AL.put s i c)) w:=hm.less fun j d hj=>by
 rw [AL.get_put] at hj
 unfold Mo.put
 split at hj
 · rename_i h; rw [if_pos h.symm]; exact hj
 · rename_i h; rw [if_neg (fun hh=>h hh.symm)]; exact hj
theorem Aal (n:Nat):Bb Tryz.prog 151 (Zex n):=by
 intro args k s r hr F h g w vals hm hin hargs hden
 unfold Zex at hr
 split at hr
 · rename_i i off
   cases hb:Nat.beq off 0 with
   | false=>rw [hb] at hr; cases hr
   | true =>
    rw [hb,Zab] at hr
    have h0:=Zac hb
    subst h0
    have hv:vals=[.pointer (some ⟨(g i).b,0,none⟩)]:=by
     unfold V.dens at hden
     obtain⟨u1,r1,rfl,e1,hd⟩:=hden
     rw [Dx hd]
     unfold V.den at e1
     rw [e1]
    rw [hv]
    split at hr
    · rename_i t x hs
      cases hb2:Nat.beq t 163 with
      | false=>rw [hb2] at hr; cases hr
      | true =>
       rw [hb2,Zab] at hr
       have ht:=Zac hb2
       subst ht
       cases hr
       obtain⟨us,T,b1,b2,b3,b4,b5⟩:=hm.blkT hs
       have hT:T=163:=b5.elim (fun h=>by cases h) id
       subst hT
       unfold V.dens at b2
       obtain⟨u1,us1,rfl,d1,d2⟩:=b2
       unfold V.dens at d2
       obtain⟨u2,us2,rfl,d3,d4⟩:=d2
       have d4:=Dx d4
       subst d4
       unfold V.den at d1
       subst d1
       have hok:=(hin _ _ hs).2
       have hi:=(hin _ _ hs).1
       refine .of rfl ((Any.Builder_copyCheck_fresh { Tryz.laysJoin with } Tryz.extraJoin.toX72 (g i).b w ?_ ?_ ?_).mono ?_)
       · unfold World.cell?; simp only [b1]; rfl
       · unfold World.shape?; rw [b1]; rfl
       · unfold World.frozen?; simp [b1]
       · rintro en w' ⟨rfl,rfl⟩
         refine⟨h,g,.tuple #[],Ad.le_refl _,fun _ _=>rfl,AgD (hm.set hs b4 (J2 w ⟨(g i).b,0,none⟩ _) ⟨b4,[.pointer (some ⟨(g i).b,0,none⟩),u2],163,?_,?_,?_,.inr rfl⟩),JD.putC hin (Ap.1 hi) ?_,Zas _,rfl,?_,rfl⟩
         · unfold World.setCell
           simp [Zbn,b1]
         · unfold V.dens V.dens V.dens
           exact⟨_,_,rfl,by unfold V.den; rfl,_,_,rfl,d3,rfl⟩
         · intro u hu
           rcases Zam.1 hu with rfl | hu
           · rfl
           · exact b3 u (ZaR _ hu)
         · have e1:V.oksB (CT k) [(.nilp:V Ty),x]=true:=hok
           unfold V.oksB at e1
           show V.oksB (CT k) [(.ptr i 0:V Ty),x]=true
           unfold V.oksB
           rw [(As e1).2,Zb1]
           unfold V.okB
           exact hi
         · unfold V.den; exact⟨[],rfl,rfl⟩
    · rename_i t j o x hs
      cases hb2:(Nat.beq j i && Nat.beq o 0) with
      | false=>rw [hb2] at hr; cases hr
      | true =>
       rw [hb2,Zab] at hr
       obtain⟨hj,ho⟩:=As hb2
       have hj:=Zac hj
       have ho:=Zac ho
       subst hj ho
       cases hr
       obtain⟨us,T,b1,b2,b3,b4,b5⟩:=hm.blk hs
       unfold V.dens at b2
       obtain⟨u1,us1,rfl,d1,d2⟩:=b2
       unfold V.den at d1
       subst d1
       refine .of rfl ((Any.Builder_copyCheck_used { Tryz.laysJoin with } Tryz.extraJoin.toX72 (g j).b w (b5 0 _ rfl)).mono ?_)
       rintro en w' ⟨rfl,rfl⟩
       exact⟨h,g,.tuple #[],Ad.le_refl _,fun _ _=>rfl,hm,hin,Zas _,rfl,by unfold V.den; exact⟨[],rfl,rfl⟩,rfl⟩
    · cases hr
 · cases hr
set_option maxHeartbeats 2000000 in
theorem AbO (b:Nat) (T:TypeId) (p v:Value) (l:List UInt8) (w:World) (hbk:w.heap[b]? = some (.cells #[p,v] T (0,0)))
  (hv:(v=.slice none 0 0∧l=[])∨∃ (g cap:Nat)(cur:Array Value),v=.slice (some ⟨g,0,none⟩) l.length cap∧w.heap[g]? = some (.cells cur 5 (0,0))∧l.length≤cap∧cap≤maxLen∧cur.size=cap∧∀ (j:Nat)(x:UInt8),l[j]? = some x→cur[j]? = some (.int .u8 x.toNat)) :
  Calls Tryz.prog 95 #[.pointer (some ⟨b,0,none⟩)] w fun e w'=>e=.returned (.string ⟨l.toArray⟩)∧(w.grownBy w' none∨∃ g n c,v=.slice (some ⟨g,0,none⟩) n c∧w.grownBy w' (some g)):=by
 have c1:w.drew.cell? ⟨b,1,none⟩=some v:=by
  have:w.drew.heap[b]? = some (.cells #[p,v] T (0,0)):=hbk
  rw [Lib.cell_of_heap this]; rfl
 have hd:w.grownBy w.drew none:=⟨rfl,rfl,rfl,Zas _,fun _ _ _=>rfl⟩
 have hUS:∀ (W:World)(q:Option Addr),(Builtin.unsafeString_ #[253,3] 9 #[.pointer q,.int .i64 0]).run Tryz.prog W=.ok (.string .empty) W:=fun W q=>Any.unsafeString_none (P:=Tryz.prog) (ρ:=Tryz.laysJoin_ren) { Tryz.laysJoin with } Tryz.extraJoin W q
 rcases hv with⟨rfl,rfl⟩ | ⟨g,cap,cur,rfl,hg,h1,h2,h3,h4⟩
 · have hSD:(Builtin.unsafeSliceData_ #[78] 253 #[.slice none 0 0]).run Tryz.prog w.drew=.ok (.pointer none) w.drew:=rfl
   go_enter Tryz.func95,Tryz.ntmps95
   go_wp2
   go_region
   all_goals (go_wp2; go_ret; exact⟨rfl,.inl hd⟩)
 · have hg':w.drew.heap[g]? = some (.cells cur 5 (0,0)):=hg
   rcases Zbi l.length with hl | hl
   · have hl:l=[]:=ZaA hl
     subst hl
     rcases Zbi cap with rfl | hc0
     · have hSD:(Builtin.unsafeSliceData_ #[78] 253 #[.slice (some ⟨g,0,none⟩) 0 0]).run Tryz.prog w.drew=.ok (.pointer (some ⟨w.drew.heap.size,0,none⟩)) (w.drew.alloc (.view ⟨g,0,none⟩ 5)) :=
        Lib.run_unsafeSliceData_zero w.drew _ _ 5 Tryz.underlying253 ⟨g,0,none⟩ 0 (5,cur.size) (by simp [World.shape?,hg'])
       have hlt:b<w.heap.size:=(Zak.1 hbk).1
       have c2:(w.drew.alloc (.view ⟨g,0,none⟩ 5)).cell? ⟨b,1,none⟩=some (.slice (some ⟨g,0,none⟩) 0 0):=by
        have:(w.drew.alloc (.view ⟨g,0,none⟩ 5)).heap[b]? = some (.cells #[p,.slice (some ⟨g,0,none⟩) 0 0] T (0,0)):=(Lib.alloc_old w.drew _ b hlt).trans hbk
        rw [Lib.cell_of_heap this]; rfl
       have c3:(w.alloc (.view ⟨g,0,none⟩ 5)).drew.cell? ⟨b,1,none⟩=some (.slice (some ⟨g,0,none⟩) 0 0):=c2
       have c0:w.cell? ⟨b,1,none⟩=some (.slice (some ⟨g,0,none⟩) 0 0):=c1
       have hda:w.grownBy (w.drew.alloc (.view ⟨g,0,none⟩ 5)) none:=hd.trans (World.grownBy_alloc _ _ none)
       go_enter Tryz.func95,Tryz.ntmps95
       go_wp2
       go_region
       all_goals (go_wp2; go_ret; exact⟨rfl,.inl hda⟩)
     · have hSD:(Builtin.unsafeSliceData_ #[78] 253 #[.slice (some ⟨g,0,none⟩) 0 cap]).run Tryz.prog w.drew=.ok (.pointer (some ⟨g,0,none⟩)) w.drew :=
        Lib.run_unsafeSliceData_row _ _ _ _ _ _ (by omega)
       go_enter Tryz.func95,Tryz.ntmps95
       go_wp2
       go_region
       all_goals (go_wp2; go_ret; exact⟨rfl,.inl hd⟩)
   · have hSD:(Builtin.unsafeSliceData_ #[78] 253 #[.slice (some ⟨g,0,none⟩) l.length cap]).run Tryz.prog w.drew=.ok (.pointer (some ⟨g,0,none⟩)) w.drew :=
      Lib.run_unsafeSliceData_row _ _ _ _ _ _ (by omega)
     have hUS2:(Builtin.unsafeString_ #[253,3] 9 #[.pointer (some ⟨g,0,none⟩),.int .i64 l.length]).run Tryz.prog w.drew=.ok (.string ⟨l.toArray⟩) (w.drew.freeze ⟨g,0,none⟩ l.length):=by
      refine Lib.run_unsafeString_row w.drew 253 3 9 5 Tryz.underlying253 Tryz.extraJoin.cellsByte g cur.size (by simp [World.shape?,hg']) l (fun hh=>by rw [hh] at hl; cases hl) (by omega) (by unfold maxLen at h2; omega) ?_
      intro j x hx
      rw [show(⟨g,0,none⟩:Addr).add j=⟨g,j,none⟩ by unfold Addr.add; split <;> simp_all,cell_of_row w.drew _ j _ _ _ hg']
      exact h4 j x hx
     have hfr:w.grownBy (w.drew.freeze ⟨g,0,none⟩ l.length) (some g):=(show w.grownBy w.drew (some g) from⟨rfl,rfl,rfl,Zas _,fun _ _ _=>rfl⟩).trans (OX w.drew ⟨g,0,none⟩ l.length)
     go_enter Tryz.func95,Tryz.ntmps95
     go_wp2
     go_region
     all_goals (go_wp2; go_ret; exact⟨rfl,.inr ⟨g,_,_,rfl,hfr⟩⟩)
theorem Aam (n:Nat):Bb Tryz.prog 95 (Zey n):=by
 intro args k s r hr F h g w vals hm hin hargs hden
 unfold Zey at hr
 split at hr
 · rename_i i off
   cases hb:Nat.beq off 0 with
   | false=>rw [hb] at hr; cases hr
   | true =>
    rw [hb,Zab] at hr
    have h0:=Zac hb
    subst h0
    have hv:vals=[.pointer (some ⟨(g i).b,0,none⟩)]:=by
     unfold V.dens at hden
     obtain⟨u1,r1,rfl,e1,hd⟩:=hden
     rw [Dx hd]
     unfold V.den at e1
     rw [e1]
    rw [hv]
    split at hr
    · rename_i t a k5 j hs
      cases hb2:Nat.beq k5 5 with
      | false=>rw [hb2] at hr; cases hr
      | true =>
       rw [hb2,Zab] at hr
       have hk:=Zac hb2
       subst hk
       split at hr
       · rename_i k2 l hj
         split at hr
         · rename_i hk2
           subst hk2
           rw [Tr.runK_ask] at hr
           obtain⟨bb,hbb,hr⟩:=Zag.1 hr
           cases hr
           obtain⟨us,T,b1,b2,b3,b4,b5⟩:=hm.blk hs
           unfold V.dens at b2
           obtain⟨u1,us1,rfl,d1,d2⟩:=b2
           unfold V.dens at d2
           obtain⟨u2,us2,rfl,d3,d4⟩:=d2
           have d4:=Dx d4
           subst d4
           unfold V.den at d3
           obtain⟨r1,r2⟩:=hm.row hj
           unfold Nl at hbb
           change List (IK .u8) at l
           cases hall:(l.all fun x=>decide (0≤x.n) && decide (x.n<256)) with
           | false=>rw [show(bif l.all (fun x=>decide (0≤x.n) && decide (x.n<256)) then some (Q2 l) else none)=none from by rw [hall]; rfl] at hbb; cases hbb
           | true =>
            have hbb:some (Q2 l)=some bb:=by rw [← hbb]; show _=(bif l.all (fun x=>decide (0≤x.n) && decide (x.n<256)) then some (Q2 l) else none); rw [hall]; rfl
            cases hbb
            have hle:(l.map fun x=>UInt8.ofNat x.n.toNat).length=(g j).n:=by rw [ZaO]; exact r1
            have hm0:Al F h g (AL.get ([]:A7 Ty)) w:=hm.less fun i c hi=>by cases hi
            have hrow:(u2=.slice none 0 0∧(l.map fun x=>UInt8.ofNat x.n.toNat)=[])∨∃ (gb cap:Nat)(cur:Array Value),u2=.slice (some ⟨gb,0,none⟩) (l.map fun x=>UInt8.ofNat x.n.toNat).length cap∧w.heap[gb]? = some (.cells cur 5 (0,0))∧(l.map fun x=>UInt8.ofNat x.n.toNat).length≤cap∧cap≤maxLen∧cur.size=cap∧∀ (q:Nat)(x:UInt8),(l.map fun x=>UInt8.ofNat x.n.toNat)[q]? = some x→cur[q]? = some (.int .u8 x.toNat):=by
             rcases r2 with⟨n1,rfl⟩ | ⟨n1,vs,sp,n2,n3,n4,n5,n6,n7⟩
             · rw [if_pos n1] at d3
               exact .inl ⟨d3,rfl⟩
             · rw [if_neg (by rw [n1]; exact Bool.false_ne_true)] at d3
               have n4':(vs++sp).length=(g j).c*1:=n4
               refine .inr ⟨(g j).b,(g j).c,(vs++sp).toArray,by rw [hle]; exact d3,n2,by rw [hle]; exact n5,n6,by simpa using n4',fun q x hq=>?_⟩
               rw [ZaI] at hq
               obtain⟨y,hy,rfl⟩:=Za0.1 hq
               have hyr:0≤y.n∧y.n<256:=by simpa using Za9.1 hall y (ZaB hy)
               have hvs:∀ (l:List (IK .u8))(vs:List Value),At h l vs→vs=l.map fun x=>.int .u8 x.n:=by
                intro l
                induction l with
                | nil=>intro vs hc; exact hc
                | cons z r ih =>
                 intro vs hc
                 obtain⟨c1,c2,rfl,e1,e2⟩:=hc
                 have e1:c1=[.int .u8 z.n]:=e1
                 rw [e1,ih _ e2]; rfl
               have hvs:=hvs l vs n3
               have hlt:q<vs.length:=by rw [hvs,ZaO]; exact(Zaz.1 hy).1
               rw [Zb3,Zay hlt,hvs,ZaI,hy]
               show some (Value.int .u8 y.n)=some (.int .u8 _)
               rw [UInt8.toNat_ofNat',Nat.mod_eq_of_lt (by omega),Int.toNat_of_nonneg hyr.1]
            refine .of rfl ((AbO (g i).b T u1 u2 _ w b1 hrow).mono ?_)
            rintro en w' ⟨rfl,hw⟩
            have hmw:Al F h g (AL.get ([]:A7 Ty)) w':=by
             rcases hw with hw | ⟨gb,n1,c1,e1,hw⟩
             · exact hm0.grow hw
             · obtain⟨rfl⟩:gb=(g j).b:=by
                cases hnl:(g j).nl with
                | true=>rw [if_pos hnl,e1] at d3; cases d3
                | false=>rw [if_neg (by rw [hnl]; exact Bool.false_ne_true),e1] at d3; cases d3; rfl
               have hnl:(g j).nl=false:=by
                cases hnl:(g j).nl with
                | true=>rw [if_pos hnl,e1] at d3; cases d3
                | false=>rfl
               obtain⟨o1,o2,o3,o4⟩:=hm.own j _ hj hnl
               exact hm0.setFree hw o1 o3 o4 fun q d hq=>by cases hq
            exact⟨h,g,.string (Q2 l),Ad.le_refl _,fun _ _=>rfl,hmw,(show JD k (AL.get ([]:A7 Ty)) from fun q d hq=>by cases hq),Zas _,rfl,by unfold V.den; rfl,rfl⟩
         · cases hr
       · cases hr
    · cases hr
 · cases hr
open Go Go.RowKit Go.Proofs
noncomputable section
structure LB where
 f:Nat
 law:Nat→GL Ty
 ok:∀ n,Bb Tryz.prog f (law n)
def Rx:List LB→Nat→List (Nat×GL Ty)
 | [],_=>[]
 | b::t,n=>(b.f,b.law n)::Rx t n
theorem Es:∀ (t:List LB)(n:Nat),K7 Tryz.prog (Rx t n)
 | [],_=>trivial
 | b::t,n=>⟨b.ok n,Es t n⟩
structure CB (fn:Func) where
 k:LJ
 F:Nat→St Ty→Tr (Lf Ty)
 ok:∀ n,B7 true Tryz.prog fn.ntmps (F n) (Fm k fn)
def cl {fn:Func}:List (CB fn)→Nat→FO Ty
 | [],_=>[]
 | b::t,n=>(b.k,b.F n)::cl t n
theorem Ajj {fn:Func}:∀ (L:List (CB fn))(n:Nat),Xt true Tryz.prog fn.ntmps fn (cl L n)
 | [],_=>trivial
 | b::t,n=>⟨b.ok n,Ajj t n⟩
abbrev Akn (D:List (Nat×C)) (E:List Wo):=Nat→C.Ds Ty (AH D)→Option (YT Ty E)
def lp {fn:Func} (r:Nat) (D:List (Nat×C)) (kp:Nat) (E:List Wo) (F:Akn D E) (t:List LB) (L:List (CB fn))
  (h1:∀ n,BD (A6 (cl L n)) (Cv r fn)=(L.map fun b=>b.k).map fun k=>Fm k fn:=by intro n; kernel_rfl)
  (h2:(L.map fun b=>b.k).map (fun k=>IC (Fm k fn))=L.map fun b=>b.k:=by kernel_rfl)
  (h3:Nat.ble kp Ax=true:=by kernel_rfl) (h0:∀ x,F 0 x=none:=by intro x; kernel_rfl)
  (hr:∀ n x,(CI Tryz.prog fn.ntmps (Ca Tryz.prog (Rx t n) []) (A6 (cl L n)) (Cv r fn) (By D x)).runK (Gn kp D E (F n))=F (n+1) x:=by intro n x; kernel_rfl):CB fn :=
 ⟨.loop r,fun n=>MU D kp E (F n),fun n=>H1 fun x y hy=>Fk (Fn:=F) Af Am (fun n=>A5 Af Am (Es t n) EO) (fun h=>by cases h) (fun h=>by cases h) (fun n=>A0 (Ajj L n) (h1 n) h2) (Zah h3) h0 hr hy⟩
def dk:Nat→List C→List (Nat×C)
 | _,[]=>[]
 | i,c::l=>(i,c)::dk (i+1) l
theorem Ai3:∀ (cs:List C)(i:Nat),NN i (dk i cs)=true
 | [],_=>rfl
 | c::l,i=>by
  show(Nat.beq i i && NN (i+1) (dk (i+1) l))=true
  rw [Ai3 l (i+1),Nat.beq_refl]; rfl
def lw {f:Nat} {fn:Func} (hf:Tryz.prog.funcs[f]? = some fn) (cs:List C) (kp:Nat) (E:List Wo) (F:Akn (dk 0 cs) E) (t:List LB) (L:List (CB fn))
  (h1:∀ n,BD (A6 (cl L n)) (Bz fn)=(L.map fun b=>b.k).map fun k=>Fm k fn:=by intro n; kernel_rfl)
  (h2:(L.map fun b=>b.k).map (fun k=>IC (Fm k fn))=L.map fun b=>b.k:=by kernel_rfl)
  (h3:fn.body=some (Bz fn):=by kernel_rfl) (h4:Nat.ble (dk 0 cs).length fn.ntmps=true:=by kernel_rfl) (h5:Nat.blt f Ar=true:=by kernel_rfl)
  (hr:∀ n x,(CI Tryz.prog fn.ntmps (Ca Tryz.prog (Rx t n) []) (A6 (cl L n)) (Bz fn) (By (dk 0 cs) x)).runK (GN Tryz.prog fn.results.toList kp E)=F n x:=by intro n x; kernel_rfl):LB :=
 ⟨f,fun n=>FA (dk 0 cs) kp E (F n),fun n=>HT hf h3 (Ai3 cs 0) (Zah h4) h5 Af Am (A5 Af Am (Es t n) EO) (A0 (Ajj L n) (h1 n) h2) (hr n)⟩
def LB.rd (b:LB):LB:=⟨b.f,fun n=>Ui (b.law n),fun n=>Ma (b.ok n)⟩
def rt (l:List C):List Wo:=[⟨.ret,[],[],l⟩]
end
section
variable {a b c d e f g h i j r:Type}
def u1 (F:Nat→a→Option r) (n:Nat) (y:a×b):Option r:=F n y.1
def u2 (F:Nat→a→b→Option r) (n:Nat) (y:a×b×c):Option r:=F n y.1 y.2.1
def u3 (F:Nat→a→b→c→Option r) (n:Nat) (y:a×b×c×d):Option r:=F n y.1 y.2.1 y.2.2.1
def u4 (F:Nat→a→b→c→d→Option r) (n:Nat) (y:a×b×c×d×e):Option r:=F n y.1 y.2.1 y.2.2.1 y.2.2.2.1
def u5 (F:Nat→a→b→c→d→e→Option r) (n:Nat) (y:a×b×c×d×e×f):Option r:=F n y.1 y.2.1 y.2.2.1 y.2.2.2.1 y.2.2.2.2.1
def u6 (F:Nat→a→b→c→d→e→f→Option r) (n:Nat) (y:a×b×c×d×e×f×g):Option r:=F n y.1 y.2.1 y.2.2.1 y.2.2.2.1 y.2.2.2.2.1 y.2.2.2.2.2.1
def u7 (F:Nat→a→b→c→d→e→f→g→Option r) (n:Nat) (y:a×b×c×d×e×f×g×h):Option r:=F n y.1 y.2.1 y.2.2.1 y.2.2.2.1 y.2.2.2.2.1 y.2.2.2.2.2.1 y.2.2.2.2.2.2.1
def u8 (F:Nat→a→b→c→d→e→f→g→h→Option r) (n:Nat) (y:a×b×c×d×e×f×g×h×i):Option r:=F n y.1 y.2.1 y.2.2.1 y.2.2.2.1 y.2.2.2.2.1 y.2.2.2.2.2.1 y.2.2.2.2.2.2.1 y.2.2.2.2.2.2.2.1
end
def IM:Nat→(List (List Aa))→Int→(List (List Aa))→Int→Int→Option ((List (List Aa)×Int×Unit))
 | 0,_,_,_,_,_=>none
 | n+1,slices,size,x9,x10,x11 =>
  bif decide (x11<x10) then((Ao x9 x11).bind fun v0 =>
  bif decide (IntKind.i64.wrap (size+(↑v0.length:Int))<0) then(none) else
  IM n slices (IntKind.i64.wrap (size+(↑v0.length:Int))) x9 x10 (IntKind.i64.wrap (x11+1))) else
  some (slices,(size,()))
def IN:Nat→(List Aa)→(List (List Aa))→Int→Int→Option ((List Aa×Unit))
 | 0,_,_,_,_=>none
 | n+1,newslice,x25,x26,x27 =>
  bif decide (x27<x26) then((Ao x25 x27).bind fun v0 =>
  (app newslice v0).bind fun v1 =>
  IN n v1 x25 x26 (IntKind.i64.wrap (x27+1))) else
  some (newslice,())
def RR (n:Nat) (slices:List (List Aa)):Option ((List Aa×Unit)) :=
 (IM n slices 0 slices (↑slices.length:Int) 0).bind fun v0 =>
 (bif decide (0≤v0.snd.fst) && decide (v0.snd.fst≤1000000000) then some () else none).bind fun v1 =>
 (IN n [] v0.fst (↑v0.fst.length:Int) 0).bind fun v2 =>
 some (v2.fst,())
def Zhe:LB:=⟨187,Zew,Aai⟩
def Ze2:List LB:=[Zhe]
def Zg6:CB Tryz.f131:=lp 3 [(0,.l 28),(3,.s 3),(9,.l 28),(10,.s 3),(11,.s 3)] 0 [⟨.exit 0,[],[(0,.l 28),(3,.s 3)],[]⟩] (u5 IM) Ze2 []
def Zg7:CB Tryz.f131:=lp 11 [(6,.o 93),(25,.l 28),(26,.s 3),(27,.s 3)] 0 [⟨.exit 2,[],[(6,.o 93)],[]⟩] (u4 IN) Ze2 []
def ZgW:LB:=lw Tryz.func131 [.l 28] 0 (rt [.o 93]) (u1 RR) Ze2 [Zg6,Zg7]
def Au (n:Nat) (is:Bool) (e:Int):Option (Unit ⊕ ((Az×Unit))) :=
 bif !is then(some (.inr (Az.mk e,()))) else
 some (.inl ())
def fgarage_ask_b:LB:=lw Tryz.func139 [.s 4,.s 3] 0 [⟨.ret,[],[],[]⟩,⟨.pan,[],[],[.i 234 (.g 234)]⟩] (u2 Au) [] []
def EY (n:Nat) (l:List Ak) (x:Ak):Option ((List Ak×Unit)) :=
 (U3 n l).bind fun v0 =>
 (app v0.fst [x]).bind fun v1 =>
 some (v1,())
def ZgS:LB:=⟨340,Ze1,U4⟩
def Zej:LB:=lw Tryz.func308 [.l 180,.g 180] 0 (rt [.l 180]) (u2 EY) [ZgS] []
def E8 (n:Nat) (c:Ak):Option ((Bool×Unit)) :=
 bif decide (0≤c.bus) then(bif decide (c.bus≤99) then(bif decide (1≤c.number) then(bif decide (c.number≤999) then(bif decide (0≤c.minute) then(bif decide (c.minute≤1000000) then(bif decide (IntKind.i64.wrap c.kind.n<(↑[G0.mk (Fp.mk (↑212:Int)),G0.mk (Fp.mk (↑212:Int)),G0.mk (Fp.mk (↑213:Int)),G0.mk (Fp.mk (↑214:Int))].length:Int)) then((Ao [G0.mk (Fp.mk (↑212:Int)),G0.mk (Fp.mk (↑212:Int)),G0.mk (Fp.mk (↑213:Int)),G0.mk (Fp.mk (↑214:Int))] c.kind.n).bind fun v0 =>
 ([G0.mk (Fp.mk (↑212:Int)),G0.mk (Fp.mk (↑212:Int)),G0.mk (Fp.mk (↑213:Int)),G0.mk (Fp.mk (↑214:Int))].get?Internal c.kind.n.toNat).bind fun v1 =>
 bif decide (v1.right.f=(↑212:Int)) then(bif decide (0≤c.part) then(bif decide (c.part≤15) then(some (decide (c.sg=0),())) else
 some (false,())) else
 some (false,())) else
 bif decide (v1.right.f=(↑213:Int)) then(bif decide (c.part=0) then(bif decide (1≤c.sg) then(some (decide (c.sg≤999),())) else
 some (false,())) else
 some (false,())) else
 bif decide (v1.right.f=(↑214:Int)) then(bif decide (c.part=0) then(some (decide (c.sg=0),())) else
 some (false,())) else
 none) else
 some (false,())) else
 some (false,())) else
 some (false,())) else
 some (false,())) else
 some (false,())) else
 some (false,())) else
 some (false,())
def ZeM:LB:=lw Tryz.func106 [.g 180] 0 (rt [.s 4]) (u1 E8) [] []
def Fo:List (Nat×C):=[(4,.p 0 [.m 3 180,.o 3]),(20,.l 180),(21,.s 3),(22,.s 3)]
def IP:List Wo:=[⟨.exit 1,[.p 0 [.m 3 180,.o 3],.q 1],[(4,.q 0)],[]⟩,⟨.ret,[.p 0 [.m 3 180,.o 3],.q 1],[(2,.z),(3,.s 3)],[]⟩]
def Jp:List (Nat×C):=[(0,.l 180)]
def Md:List Wo:=[⟨.ret,[],[],[.z,.s 3]⟩,⟨.ret,[],[],[.p 0 [.m 3 180,.l 3],.s 3]⟩]
def Ez:Nat→(List Ak)→Int→Int→Option ((((Unit×Unit)×Unit)×Unit) ⊕ ((((Unit×Unit)×Unit)×Int×Unit)))
 | 0,_,_,_=>none
 | n+1,s,x7,x8 =>
  bif decide (x8<x7) then((Ao s x8).bind fun v0 =>
  (E8 n v0).bind fun v1 =>
  bif !v1.fst then(some (.inr ((((),()),()),(x8,())))) else
  Ez n s x7 (IntKind.i64.wrap (x8+1))) else
  some (.inl ((((),()),()),()))
def Cc:Nat→(List (Int×Ak))→(List Int)→(List Ak)→Int→Int→Option ((((List (Int×Ak))×List Int×Unit)×Unit×Unit×Unit) ⊕ ((((List (Int×Ak))×List Int×Unit)×Unit×Unit×Int×Unit)))
 | 0,_,_,_,_,_=>none
 | n+1,b1,b2,x20,x21,x22 =>
  bif decide (x22<x21) then((Ao x20 x22).bind fun v0 =>
  bif Ct BE b1 v0.number then(bif !(decide ((AG BE b1 v0.number (Ak.mk 0 0 0 (IK.mk 0) 0 0)).bus=v0.bus) && (decide ((AG BE b1 v0.number (Ak.mk 0 0 0 (IK.mk 0) 0 0)).number=v0.number) && (decide ((AG BE b1 v0.number (Ak.mk 0 0 0 (IK.mk 0) 0 0)).minute=v0.minute) && (decide ((AG BE b1 v0.number (Ak.mk 0 0 0 (IK.mk 0) 0 0)).kind.n=v0.kind.n) && (decide ((AG BE b1 v0.number (Ak.mk 0 0 0 (IK.mk 0) 0 0)).part=v0.part) && (decide ((AG BE b1 v0.number (Ak.mk 0 0 0 (IK.mk 0) 0 0)).sg=v0.sg) && true)))))) then(some (.inr ((b1,(b2,())),((),((),(6,())))))) else
  bif !Ct BE b1 v0.number then((app b2 [v0.number]).bind fun v1 =>
  Cc n (FY BE b1 v0.number v0) v1 x20 x21 (IntKind.i64.wrap (x22+1))) else
  Cc n b1 b2 x20 x21 (IntKind.i64.wrap (x22+1))) else
  bif !Ct BE b1 v0.number then((app b2 [v0.number]).bind fun v1 =>
  Cc n (FY BE b1 v0.number v0) v1 x20 x21 (IntKind.i64.wrap (x22+1))) else
  Cc n b1 b2 x20 x21 (IntKind.i64.wrap (x22+1))) else
  some (.inl ((b1,(b2,())),((),((),()))))
def GO (n:Nat) (y:C.Ds Ty (AH Fo)):Option (YT Ty IP):=Cc n y.1.1 y.1.2.1 y.2.1 y.2.2.1 y.2.2.2.1
def Zdr (n:Nat):St Ty→Tr (Lf Ty):=MU Fo 2 IP (GO n)
def Ka (n:Nat) (l:List Ak):Option ((Unit×Int×Unit) ⊕ ((((List (Int×Ak))×List Int×Unit)×Int×Unit))) :=
 bif decide ((↑l.length:Int)>40) then(some (.inl ((),(3,())))) else
 (Ez n l (↑l.length:Int) 0).bind fun v0 =>
 Sum.elim (fun v1=>(Cc n [] [] l (↑l.length:Int) 0).bind fun v2 =>
 Sum.elim (fun v3=>(Ab9 v3.fst.snd.fst).bind fun v4 =>
 some (.inr ((v3.fst.fst,(v4,())),(0,())))) (fun v3=>some (.inl ((),(v3.snd.snd.snd.fst,())))) (v2)) (fun v1=>bif !!decide (v1.snd.fst≥0) then(some (.inl ((),(1,())))) else
 (Cc n [] [] l (↑l.length:Int) 0).bind fun v2 =>
 Sum.elim (fun v3=>(Ab9 v3.fst.snd.fst).bind fun v4 =>
 some (.inr ((v3.fst.fst,(v4,())),(0,())))) (fun v3=>some (.inl ((),(v3.snd.snd.snd.fst,())))) (v2)) (v0)
def Ry (n:Nat) (y:C.Ds Ty (AH Jp)):Option (YT Ty Md):=Ka n y.1
def Zed (n:Nat):GL Ty:=FA Jp 0 Md (Ry n)
def Zhf:LB:=⟨108,Zgq,Aae⟩
def Zcv:List LB:=[ZeM,Zhf]
def fpit_read_i2_b:CB Tryz.f210:=lp 2 [(0,.l 180),(1,.f 158 [] [.p 0 [.f 106 [] []]]),(7,.s 3),(8,.s 3)] 1 [⟨.exit 0,[.p 0 [.f 106 [] []]],[],[]⟩,⟨.ret,[.p 0 [.f 106 [] []]],[(4,.s 3)],[]⟩] (fun n y=>Ez n y.1 y.2.2.1 y.2.2.2.1) Zcv []
def Zds (n:Nat):Lm Ty:=[(210,[(.loop 2,(fpit_read_i2_b.F n))])]
theorem Me (n:Nat):HX Tryz.prog (Zds n):=⟨EU (f:=210) Tryz.func210 rfl (A0 (fn:=Tryz.f210) (L:=[(.loop 2,(fpit_read_i2_b.F n))]) (ks:=[.loop 2]) ⟨fpit_read_i2_b.ok n,trivial⟩ (by kernel_rfl) (by kernel_rfl)),trivial⟩
def ZdD (n:Nat):FO Ty:=[]
theorem RD (n:Nat) (x:C.Ds Ty (AH Fo)):(CI Tryz.prog 69 (Ca Tryz.prog ((Rx Zcv n)) (Zds n)) (A6 (ZdD n)) (Cv 7 Tryz.f66) (By Fo x)).runK (Gn 2 Fo IP (GO n))=GO (n+1) x:=by kernel_rfl
theorem RE (n:Nat):B7 true Tryz.prog 69 (Zdr n) (.loop (Cv 7 Tryz.f66)):=H1 fun x y hy=>Fk (Fn:=GO) Af Am (fun n=>A5 Af Am ((Es Zcv n)) (Me n)) (fun h=>by cases h) (fun h=>by cases h) (fun n=>(A0 (fn:=Tryz.f66) (L:=ZdD n) (ks:=[]) trivial (by kernel_rfl) (by kernel_rfl))) (by decide) (fun _=>rfl) RD hy
def Zfj (n:Nat):FO Ty:=[(.loop 7,Zdr n)]
theorem XS (n:Nat) (x:C.Ds Ty (AH Jp)):(CI Tryz.prog 69 (Ca Tryz.prog ((Rx Zcv n)) (Zds n)) (A6 (Zfj n)) (Bz Tryz.f66) (By Jp x)).runK (GN Tryz.prog Tryz.f66.results.toList 0 Md)=Ry n x:=by kernel_rfl
theorem RF (n:Nat):Bb Tryz.prog 66 (Zed n):=HT Tryz.func66 rfl rfl (by decide) rfl Af Am (A5 Af Am ((Es Zcv n)) (Me n)) (A0 (fn:=Tryz.f66) (L:=Zfj n) (ks:=[.loop 7]) ⟨RE n,trivial⟩ (by kernel_rfl) (by kernel_rfl)) (XS n)
def Gi (n:Nat) (l:List Ak):Option ((Int×Unit)) :=
 (Ka n l).bind fun v0 =>
 Sum.elim (fun v1=>some (v1.snd.fst,())) (fun v1=>some (v1.snd.fst,())) (v0)
def Zfk:LB:=⟨66,Zed,RF⟩
def ZeN:LB:=(lw Tryz.func309 [.l 180] 0 (rt [.s 3]) (u1 Gi) [Zfk] []).rd
def C9 (n:Nat) (e:Int):Option (Unit ⊕ ((Az×Unit))) :=
 (Au n (decide (e=0)) e).bind fun v0 =>
 Sum.elim (fun v1=>some (.inl ())) (fun v1=>some (.inr (v1.fst,()))) (v0)
def ZbV:LB:=lw Tryz.func259 [.s 3] 0 [⟨.ret,[],[],[]⟩,⟨.pan,[],[],[.i 234 (.g 234)]⟩] (u1 C9) [fgarage_ask_b] []
def Bj:Nat→Ab→Ak→(List Ak)→Int→Int→Option ((Ab×Ak×Unit×Unit×Unit) ⊕ ((Ab×Ak×Az×Unit)))
 | 0,_,_,_,_,_=>none
 | n+1,g,c,x11,x12,x13 =>
  bif decide (x13<x12) then((Ao x11 x13).bind fun v0 =>
  (Au n (!(decide (v0.bus=c.bus) && (decide (v0.number=c.number) && (decide (v0.minute=c.minute) && (decide (v0.kind.n=c.kind.n) && (decide (v0.part=c.part) && (decide (v0.sg=c.sg) && true))))))) 6).bind fun v1 =>
  Sum.elim (fun v2=>Bj n g c x11 x12 (IntKind.i64.wrap (x13+1))) (fun v2=>some (.inr (g,(c,(v2.fst,()))))) (v1)) else
  some (.inl (g,(c,((),((),())))))
def Bn (n:Nat) (g:Ab) (c:Ak):Option ((Ab×Unit) ⊕ ((Ab×Az×Unit))) :=
 (Bj n g c g.state.cards (↑g.state.cards.length:Int) 0).bind fun v0 =>
 Sum.elim (fun v1=>(EY n v1.fst.state.cards v1.snd.fst).bind fun v2 =>
 (Gi n v2.fst).bind fun v3 =>
 (C9 n v3.fst).bind fun v4 =>
 Sum.elim (fun v5=>some (.inl (Ab.mk (Ae.mk v2.fst v1.fst.state.outs v1.fst.state.runs v1.fst.state.records v1.fst.state.week v1.fst.state.roster),()))) (fun v5=>some (.inr (v1.fst,(v5.fst,())))) (v4)) (fun v1=>some (.inr (v1.fst,(v1.snd.snd.fst,())))) (v0)
def Zcw:List LB:=[fgarage_ask_b,Zej,ZeN,ZbV]
def Zdm:CB Tryz.f258:=lp 2 [(0,.u 114),(3,.u 180),(11,.l 180),(12,.s 3),(13,.s 3)] 2 [⟨.exit 0,[.u 114,.u 180],[(0,.q 0),(3,.q 1)],[]⟩,⟨.pan,[.u 114,.u 180],[],[.i 234 (.g 234)]⟩] (u5 Bj) Zcw []
def ZbL:LB:=lw Tryz.func258 [.u 114,.g 180] 1 [⟨.ret,[.u 114],[],[]⟩,⟨.pan,[.u 114],[],[.i 234 (.g 234)]⟩] (u2 Bn) Zcw [Zdm]
def De (n:Nat) (g:Ab) (n_:List Int):Option ((Ab×Unit) ⊕ ((Ab×Az×Unit))) :=
 bif n_.length.beq 5 then((Ao n_ 0).bind fun v0 =>
 (n_.get?Internal (Int.toNat 0)).bind fun v1 =>
 bif n_.length.beq 5 then((Ao n_ 1).bind fun v2 =>
 (n_.get?Internal (Int.toNat 1)).bind fun v3 =>
 bif n_.length.beq 5 then((Ao n_ 2).bind fun v4 =>
 (n_.get?Internal (Int.toNat 2)).bind fun v5 =>
 bif n_.length.beq 5 then((Ao n_ 3).bind fun v6 =>
 (n_.get?Internal (Int.toNat 3)).bind fun v7 =>
 (Bn n g (Ak.mk v1 v3 v5 (IK.mk 0) v7 0)).bind fun v8 =>
 Sum.elim (fun v9=>some (.inl (v9.fst,()))) (fun v9=>some (.inr (v9.fst,(v9.snd.fst,())))) (v8)) else
 none) else
 none) else
 none) else
 none
def fgarage_session_found_b:LB:=lw Tryz.func189 [.u 114,.v 3] 1 [⟨.ret,[.u 114],[],[]⟩,⟨.pan,[.u 114],[],[.i 234 (.g 234)]⟩] (u2 De) [ZbL] []
def Dy (n:Nat) (g:Ab) (n_:List Int):Option ((Ab×Unit) ⊕ ((Ab×Az×Unit))) :=
 bif n_.length.beq 5 then((Ao n_ 0).bind fun v0 =>
 (n_.get?Internal (Int.toNat 0)).bind fun v1 =>
 bif n_.length.beq 5 then((Ao n_ 1).bind fun v2 =>
 (n_.get?Internal (Int.toNat 1)).bind fun v3 =>
 bif n_.length.beq 5 then((Ao n_ 2).bind fun v4 =>
 (n_.get?Internal (Int.toNat 2)).bind fun v5 =>
 bif n_.length.beq 5 then((Ao n_ 3).bind fun v6 =>
 (n_.get?Internal (Int.toNat 3)).bind fun v7 =>
 (Bn n g (Ak.mk v1 v3 v5 (IK.mk 1) v7 0)).bind fun v8 =>
 Sum.elim (fun v9=>some (.inl (v9.fst,()))) (fun v9=>some (.inr (v9.fst,(v9.snd.fst,())))) (v8)) else
 none) else
 none) else
 none) else
 none
def fgarage_session_held_b:LB:=lw Tryz.func190 [.u 114,.v 3] 1 [⟨.ret,[.u 114],[],[]⟩,⟨.pan,[.u 114],[],[.i 234 (.g 234)]⟩] (u2 Dy) [ZbL] []
def CA (n:Nat) (g:Ab) (n_:List Int):Option ((Ab×Unit) ⊕ ((Ab×Az×Unit))) :=
 bif n_.length.beq 5 then((Ao n_ 0).bind fun v0 =>
 (n_.get?Internal (Int.toNat 0)).bind fun v1 =>
 bif n_.length.beq 5 then((Ao n_ 1).bind fun v2 =>
 (n_.get?Internal (Int.toNat 1)).bind fun v3 =>
 bif n_.length.beq 5 then((Ao n_ 2).bind fun v4 =>
 (n_.get?Internal (Int.toNat 2)).bind fun v5 =>
 bif n_.length.beq 5 then((Ao n_ 3).bind fun v6 =>
 (n_.get?Internal (Int.toNat 3)).bind fun v7 =>
 (Bn n g (Ak.mk v1 v3 v5 (IK.mk 2) 0 v7)).bind fun v8 =>
 Sum.elim (fun v9=>some (.inl (v9.fst,()))) (fun v9=>some (.inr (v9.fst,(v9.snd.fst,())))) (v8)) else
 none) else
 none) else
 none) else
 none
def fgarage_session_signed_b:LB:=lw Tryz.func191 [.u 114,.v 3] 1 [⟨.ret,[.u 114],[],[]⟩,⟨.pan,[.u 114],[],[.i 234 (.g 234)]⟩] (u2 CA) [ZbL] []
def Cn (n:Nat) (g:Ab) (n_:List Int):Option ((Ab×Unit) ⊕ ((Ab×Az×Unit))) :=
 bif n_.length.beq 5 then((Ao n_ 0).bind fun v0 =>
 (n_.get?Internal (Int.toNat 0)).bind fun v1 =>
 bif n_.length.beq 5 then((Ao n_ 1).bind fun v2 =>
 (n_.get?Internal (Int.toNat 1)).bind fun v3 =>
 bif n_.length.beq 5 then((Ao n_ 2).bind fun v4 =>
 (n_.get?Internal (Int.toNat 2)).bind fun v5 =>
 (Bn n g (Ak.mk v1 v3 v5 (IK.mk 3) 0 0)).bind fun v6 =>
 Sum.elim (fun v7=>some (.inl (v7.fst,()))) (fun v7=>some (.inr (v7.fst,(v7.snd.fst,())))) (v6)) else
 none) else
 none) else
 none
def fgarage_session_checked_b:LB:=lw Tryz.func192 [.u 114,.v 3] 1 [⟨.ret,[.u 114],[],[]⟩,⟨.pan,[.u 114],[],[.i 234 (.g 234)]⟩] (u2 Cn) [ZbL] []
def B1 (n:Nat) (n_:Int) (low:Int) (high:Int):Option ((Bool×Unit)) :=
 bif decide (low≤n_) then(some (decide (n_≤high),())) else
 some (false,())
def Zcc:LB:=lw Tryz.func75 [.s 3,.s 3,.s 3] 0 (rt [.s 4]) (u3 B1) [] []
def Pv:Nat→Int→Int→(List MV)→Int→Int→Option ((Int×Unit))
 | 0,_,_,_,_,_=>none
 | n+1,bus,at_,x12,x13,x14 =>
  bif decide (x14<x13) then((Ao x12 x14).bind fun v0 =>
  bif decide (v0.bus=bus) then(some (x14,())) else
  Pv n bus at_ x12 x13 (IntKind.i64.wrap (x14+1))) else
  some (at_,())
def Vj (n:Nat) (g:Ab) (bus:Int):Option ((Ab×Int×Unit)) :=
 (Pv n bus (-1) g.state.outs (↑g.state.outs.length:Int) 0).bind fun v0 =>
 some (g,(v0.fst,()))
def ZgX:CB Tryz.f94:=lp 3 [(1,.s 3),(5,.s 3),(12,.l 60),(13,.s 3),(14,.s 3)] 0 [⟨.exit 0,[],[(5,.s 3)],[]⟩] (u5 Pv) [] []
def Zf9:LB:=lw Tryz.func94 [.u 114,.s 3] 1 [⟨.ret,[.u 114],[],[.s 3]⟩] (u2 Vj) [] [ZgX]
def Ci:List (Nat×C):=[(0,.y 0 69 [5,6,7] [.p 0 [.s 3],.p 0 [.o 3],.p 0 [.f 109 [.p 0 [.m 3 180,.l 3]] []]]),(1,.p 0 [.q 4]),(2,.p 0 [.s 3]),(10,.l 3),(11,.s 3),(12,.s 3)]
def Fq:List Wo:=[⟨.exit 0,[.y 0 69 [5,6,7] [.p 0 [.s 3],.p 0 [.o 3],.p 0 [.f 109 [.p 0 [.m 3 180,.l 3]] []]],.q 1,.q 2,.q 3,.q 4,.q 5,.p 0 [.q 4],.p 0 [.s 3]],[],[]⟩,⟨.ret,[.y 0 69 [5,6,7] [.p 0 [.s 3],.p 0 [.o 3],.p 0 [.f 109 [.p 0 [.m 3 180,.l 3]] []]],.q 1,.q 2,.q 3,.q 4,.q 5,.p 0 [.q 4],.p 0 [.s 3]],[],[]⟩]
def AM:Nat→Int→(List Int)→(List (Int×Ak))→(List Int)→Int→(List Int)→Int→Int→Option ((((Int×Unit)×(List Int×Unit)×(((((List (Int×Ak))×List Int×Unit)×Unit)×Unit)×Unit)×Unit)×Unit×Unit×Unit×Unit×Unit×(Unit×Unit)×(Int×Unit)×Unit) ⊕ ((((Int×Unit)×(List Int×Unit)×(((((List (Int×Ak))×List Int×Unit)×Unit)×Unit)×Unit)×Unit)×Unit×Unit×Unit×Unit×Unit×(Unit×Unit)×(Int×Unit)×Unit)))
 | 0,_,_,_,_,_,_,_,_=>none
 | n+1,yield1,yield2,yield3,yield4,x2,x10,x11,x12 =>
  bif decide (x12<x11) then((Ao x10 x12).bind fun v0 =>
  bif decide ((AG BE yield3 v0 (Ak.mk 0 0 0 (IK.mk 0) 0 0)).bus=x2) then(bif !decide ((AG BE yield3 v0 (Ak.mk 0 0 0 (IK.mk 0) 0 0)).kind.n=0) then(bif decide ((AG BE yield3 v0 (Ak.mk 0 0 0 (IK.mk 0) 0 0)).kind.n=1) then((AcF n yield3 yield4 (AG BE yield3 v0 (Ak.mk 0 0 0 (IK.mk 0) 0 0)) yield1).bind fun v1 =>
  bif v1.snd.snd.fst then((app yield2 [(AG BE yield3 v0 (Ak.mk 0 0 0 (IK.mk 0) 0 0)).number]).bind fun v2 =>
  AM n yield1 v2 v1.fst.fst v1.fst.snd.fst x2 x10 x11 (IntKind.i64.wrap (x12+1))) else
  AM n yield1 yield2 v1.fst.fst v1.fst.snd.fst x2 x10 x11 (IntKind.i64.wrap (x12+1))) else
  AM n yield1 yield2 yield3 yield4 x2 x10 x11 (IntKind.i64.wrap (x12+1))) else
  (AcF n yield3 yield4 (AG BE yield3 v0 (Ak.mk 0 0 0 (IK.mk 0) 0 0)) yield1).bind fun v1 =>
  bif v1.snd.snd.fst then((app yield2 [(AG BE yield3 v0 (Ak.mk 0 0 0 (IK.mk 0) 0 0)).number]).bind fun v2 =>
  AM n yield1 v2 v1.fst.fst v1.fst.snd.fst x2 x10 x11 (IntKind.i64.wrap (x12+1))) else
  AM n yield1 yield2 v1.fst.fst v1.fst.snd.fst x2 x10 x11 (IntKind.i64.wrap (x12+1))) else
  AM n yield1 yield2 yield3 yield4 x2 x10 x11 (IntKind.i64.wrap (x12+1))) else
  some (.inl (((yield1,()),((yield2,()),(((((yield3,(yield4,())),()),()),()),()))),((),((),((),((),((),(((),()),((x2,()),())))))))))
def Dz (n:Nat) (y:C.Ds Ty (AH Ci)):Option (YT Ty Fq):=AM n y.1.1.1 y.1.2.1.1 y.1.2.2.1.1.1.1.1 y.1.2.2.1.1.1.1.2.1 y.2.2.1.1 y.2.2.2.1 y.2.2.2.2.1 y.2.2.2.2.2.1
def ZbT (n:Nat):St Ty→Tr (Lf Ty):=MU Ci 8 Fq (Dz n)
def Gj (n:Nat) (b1:List (Int×Ak)) (b2:List Int) (bus:Int) (at_:Int):Option ((((List (Int×Ak))×List Int×Unit)×Unit×List Int×Unit)) :=
 (AM n at_ [] b1 b2 bus b2 (↑b2.length:Int) 0).bind fun v0 =>
 Sum.elim (fun v1=>some ((v1.fst.snd.snd.fst.fst.fst.fst.fst,(v1.fst.snd.snd.fst.fst.fst.fst.snd.fst,())),((),(v1.fst.snd.fst.fst,())))) (fun v1=>some ((v1.fst.snd.snd.fst.fst.fst.fst.fst,(v1.fst.snd.snd.fst.fst.fst.fst.snd.fst,())),((),(v1.fst.snd.fst.fst,())))) (v0)
def Zhg:LB:=⟨109,Zgu,Aaj⟩
def ZbN:List LB:=[Zhg]
def Zdh (n:Nat):FO Ty:=[]
def Zct (n:Nat):List (Nat×GL Ty):=(Ar,AjK Tryz.prog (Ca Tryz.prog ((Rx ZbN n)) []) (A6 []) (A6 (Zdh n)) 69)::(Rx ZbN n)
theorem HY (n:Nat):K7 Tryz.prog (Zct n):=⟨Ab5 Af Am (A5 Af Am ((Es ZbN n)) EO) (fun _ _ _ h=>by cases h) (A0 (fn:=Tryz.f69) (c:=(RFs.rf 69).body) (N:=(RFs.rf 69).n) (L:=Zdh n) (ks:=[]) trivial (by kernel_rfl) (by kernel_rfl)),Es ZbN n⟩
def ZcE (n:Nat):FO Ty:=[]
theorem Ln (n:Nat) (x:C.Ds Ty (AH Ci)):(CI Tryz.prog 37 (Ca Tryz.prog (Zct n) []) (A6 (ZcE n)) (Cv 1 Tryz.f163) (By Ci x)).runK (Gn 8 Ci Fq (Dz n))=Dz (n+1) x:=by kernel_rfl
theorem Lo (n:Nat):B7 true Tryz.prog 37 (ZbT n) (.loop (Cv 1 Tryz.f163)):=H1 fun x y hy=>Fk (Fn:=Dz) Af Am (fun n=>A5 Af Am (HY n) EO) (fun h=>by cases h) (fun h=>by cases h) (fun n=>(A0 (fn:=Tryz.f163) (L:=ZcE n) (ks:=[]) trivial (by kernel_rfl) (by kernel_rfl))) (by decide) (fun _=>rfl) Ln hy
def Zdi (n:Nat):Lm Ty:=[(163,[(.loop 1,ZbT n)])]
theorem MW (n:Nat):HX Tryz.prog (Zdi n):=⟨EU (f:=163) Tryz.func163 rfl (A0 (fn:=Tryz.f163) (L:=[(.loop 1,ZbT n)]) (ks:=[.loop 1]) ⟨Lo n,trivial⟩ (by kernel_rfl) (by kernel_rfl)),trivial⟩
def Zdd (n:Nat):St Ty→Tr (Lf Ty):=Ajo Tryz.prog (Ca Tryz.prog (Zct n) (Zdi n)) (.tmp 13) 69 [5,6,7]
theorem Mf (n:Nat):B7 true Tryz.prog 25 (Zdd n) (Fm (.rf 4) Tryz.f69):=Ab8 (A5 Af Am (HY n) (MW n)) (by kernel_rfl) (by kernel_rfl)
def ZeO:LB:=lw Tryz.func69 [.p 0 [.m 3 180,.l 3],.s 3,.s 3] 2 [⟨.ret,[.p 0 [.m 3 180,.l 3],.q 1],[],[.o 3]⟩] (fun n y=>Gj n y.1.1 y.1.2.1 y.2.1 y.2.2.1) ZbN [⟨.rf 4,fun n=>Zdd n,fun n=>Mf n⟩]
def Dj (n:Nat) (l:List Ak) (bus:Int) (at_:Int):Option ((List Int×Int×Unit)) :=
 (Ka n l).bind fun v0 =>
 Sum.elim (fun v1=>bif v1.snd.fst != 0 then(some ([],(v1.snd.fst,()))) else
 bif decide (0≤bus) then(bif !!decide (bus≤99) then(bif decide (0≤at_) then(bif !decide (at_≤1000000) then(some ([],(2,()))) else
 none) else
 some ([],(2,()))) else
 some ([],(2,()))) else
 some ([],(2,()))) (fun v1=>bif v1.snd.fst != 0 then(some ([],(v1.snd.fst,()))) else
 bif decide (0≤bus) then(bif !!decide (bus≤99) then(bif decide (0≤at_) then(bif !decide (at_≤1000000) then(some ([],(2,()))) else
 (Gj n v1.fst.fst v1.fst.snd.fst bus at_).bind fun v2 =>
 some (v2.snd.snd.fst,(0,()))) else
 some ([],(2,()))) else
 some ([],(2,()))) else
 some ([],(2,()))) (v0)
def Zd7:LB:=lw Tryz.func29 [.l 180,.s 3,.s 3] 0 (rt [.l 3,.s 3]) (u3 Dj) [Zfk,ZeO] []
def Ed (n:Nat) (l:List MV) (x:MV):Option ((List MV×Unit)) :=
 (KF n l).bind fun v0 =>
 (app v0.fst [x]).bind fun v1 =>
 some (v1,())
def Zgw:LB:=⟨262,Zff,Vf⟩
def Ze3:LB:=lw Tryz.func260 [.l 60,.g 60] 0 (rt [.l 60]) (u2 Ed) [Zgw] []
def A8:Nat→Ab→Int→Int→(List Ls)→Int→Int→Option ((Ab×Unit×Int×Int×Unit) ⊕ ((Ab×Az×Unit)))
 | 0,_,_,_,_,_,_=>none
 | n+1,g,bus,at_,x30,x31,x32 =>
  bif decide (x32<x31) then((Ao x30 x32).bind fun v0 =>
  bif !v0.bus != bus then((Au n (decide (v0.to_≤at_)) 8).bind fun v1 =>
  Sum.elim (fun v2=>A8 n g bus at_ x30 x31 (IntKind.i64.wrap (x32+1))) (fun v2=>some (.inr (g,(v2.fst,())))) (v1)) else
  (Au n true 8).bind fun v1 =>
  Sum.elim (fun v2=>A8 n g bus at_ x30 x31 (IntKind.i64.wrap (x32+1))) (fun v2=>some (.inr (g,(v2.fst,())))) (v1)) else
  some (.inl (g,((),(bus,(at_,())))))
def Cy (n:Nat) (g:Ab) (n_:List Int):Option ((Ab×Unit) ⊕ ((Ab×Az×Unit))) :=
 bif n_.length.beq 5 then((Ao n_ 0).bind fun v0 =>
 (n_.get?Internal (Int.toNat 0)).bind fun v1 =>
 bif n_.length.beq 5 then((Ao n_ 1).bind fun v2 =>
 (n_.get?Internal (Int.toNat 1)).bind fun v3 =>
 (B1 n v1 0 99).bind fun v4 =>
 bif v4.fst then((B1 n v3 0 1000000).bind fun v5 =>
 (Au n v5.fst 2).bind fun v6 =>
 Sum.elim (fun v7=>(Vj n g v1).bind fun v8 =>
 (Au n (decide (v8.snd.fst<0)) 8).bind fun v9 =>
 Sum.elim (fun v10=>(A8 n v8.fst v1 v3 v8.fst.state.runs (↑v8.fst.state.runs.length:Int) 0).bind fun v11 =>
 Sum.elim (fun v12=>(Dj n v12.fst.state.cards v12.snd.snd.fst v12.snd.snd.snd.fst).bind fun v13 =>
 (C9 n v13.snd.fst).bind fun v14 =>
 Sum.elim (fun v15=>(Au n (decide ((↑v13.fst.length:Int)=0)) 11).bind fun v16 =>
 Sum.elim (fun v17=>(Ed n v12.fst.state.outs (MV.mk v12.snd.snd.fst v12.snd.snd.snd.fst)).bind fun v18 =>
 some (.inl (Ab.mk (Ae.mk v12.fst.state.cards v18.fst v12.fst.state.runs v12.fst.state.records v12.fst.state.week v12.fst.state.roster),()))) (fun v17=>some (.inr (v12.fst,(v17.fst,())))) (v16)) (fun v15=>some (.inr (v12.fst,(v15.fst,())))) (v14)) (fun v12=>some (.inr (v12.fst,(v12.snd.fst,())))) (v11)) (fun v10=>some (.inr (v8.fst,(v10.fst,())))) (v9)) (fun v7=>some (.inr (g,(v7.fst,())))) (v6)) else
 (Au n false 2).bind fun v5 =>
 Sum.elim (fun v6=>(Vj n g v1).bind fun v7 =>
 (Au n (decide (v7.snd.fst<0)) 8).bind fun v8 =>
 Sum.elim (fun v9=>(A8 n v7.fst v1 v3 v7.fst.state.runs (↑v7.fst.state.runs.length:Int) 0).bind fun v10 =>
 Sum.elim (fun v11=>(Dj n v11.fst.state.cards v11.snd.snd.fst v11.snd.snd.snd.fst).bind fun v12 =>
 (C9 n v12.snd.fst).bind fun v13 =>
 Sum.elim (fun v14=>(Au n (decide ((↑v12.fst.length:Int)=0)) 11).bind fun v15 =>
 Sum.elim (fun v16=>(Ed n v11.fst.state.outs (MV.mk v11.snd.snd.fst v11.snd.snd.snd.fst)).bind fun v17 =>
 some (.inl (Ab.mk (Ae.mk v11.fst.state.cards v17.fst v11.fst.state.runs v11.fst.state.records v11.fst.state.week v11.fst.state.roster),()))) (fun v16=>some (.inr (v11.fst,(v16.fst,())))) (v15)) (fun v14=>some (.inr (v11.fst,(v14.fst,())))) (v13)) (fun v11=>some (.inr (v11.fst,(v11.snd.fst,())))) (v10)) (fun v9=>some (.inr (v7.fst,(v9.fst,())))) (v8)) (fun v6=>some (.inr (g,(v6.fst,())))) (v5)) else
 none) else
 none
def Zc3:List LB:=[Zcc,fgarage_ask_b,Zf9,Zd7,ZbV,Ze3]
def Zdt:CB Tryz.f193:=lp 5 [(0,.u 114),(4,.s 3),(5,.s 3),(30,.l 62),(31,.s 3),(32,.s 3)] 1 [⟨.exit 0,[.u 114],[(0,.q 0),(4,.s 3),(5,.s 3)],[]⟩,⟨.pan,[.u 114],[],[.i 234 (.g 234)]⟩] (u6 A8) Zc3 []
def fgarage_session_out_b:LB:=lw Tryz.func193 [.u 114,.v 3] 1 [⟨.ret,[.u 114],[],[]⟩,⟨.pan,[.u 114],[],[.i 234 (.g 234)]⟩] (u2 Cy) Zc3 [Zdt]
def Ee (n:Nat) (l:List Ls) (x:Ls):Option ((List Ls×Unit)) :=
 (XN n l).bind fun v0 =>
 (app v0.fst [x]).bind fun v1 =>
 some (v1,())
def ZgY:LB:=⟨310,Zfg,Vg⟩
def Ze4:LB:=lw Tryz.func263 [.l 62,.g 62] 0 (rt [.l 62]) (u2 Ee) [ZgY] []
def CW (n:Nat) (g:Ab) (n_:List Int):Option ((Ab×Unit) ⊕ ((Ab×Az×Unit))) :=
 bif n_.length.beq 5 then((Ao n_ 0).bind fun v0 =>
 (n_.get?Internal (Int.toNat 0)).bind fun v1 =>
 (Vj n g v1).bind fun v2 =>
 (Au n (decide (v2.snd.fst≥0)) 8).bind fun v3 =>
 Sum.elim (fun v4=>(Ao v2.fst.state.outs v2.snd.fst).bind fun v5 =>
 bif n_.length.beq 5 then((Ao n_ 1).bind fun v6 =>
 (n_.get?Internal (Int.toNat 1)).bind fun v7 =>
 (B1 n v7 v5.fr 1000000).bind fun v8 =>
 bif v8.fst then(bif n_.length.beq 5 then((Ao n_ 2).bind fun v9 =>
 (n_.get?Internal (Int.toNat 2)).bind fun v10 =>
 (B1 n v10 0 1000).bind fun v11 =>
 (Au n v11.fst 2).bind fun v12 =>
 Sum.elim (fun v13=>(KF n v2.fst.state.outs).bind fun v14 =>
 (XP n v14.fst v2.snd.fst (IntKind.i64.wrap (v2.snd.fst+1))).bind fun v15 =>
 bif n_.length.beq 5 then((Ao n_ 1).bind fun v16 =>
 (n_.get?Internal (Int.toNat 1)).bind fun v17 =>
 bif n_.length.beq 5 then((Ao n_ 2).bind fun v18 =>
 (n_.get?Internal (Int.toNat 2)).bind fun v19 =>
 (Ee n v2.fst.state.runs (Ls.mk v5.bus v5.fr v17 v19)).bind fun v20 =>
 some (.inl (Ab.mk (Ae.mk v2.fst.state.cards v15.fst v20.fst v2.fst.state.records v2.fst.state.week v2.fst.state.roster),()))) else
 none) else
 none) (fun v13=>some (.inr (v2.fst,(v13.fst,())))) (v12)) else
 none) else
 (Au n false 2).bind fun v9 =>
 Sum.elim (fun v10=>(KF n v2.fst.state.outs).bind fun v11 =>
 (XP n v11.fst v2.snd.fst (IntKind.i64.wrap (v2.snd.fst+1))).bind fun v12 =>
 bif n_.length.beq 5 then((Ao n_ 1).bind fun v13 =>
 (n_.get?Internal (Int.toNat 1)).bind fun v14 =>
 bif n_.length.beq 5 then((Ao n_ 2).bind fun v15 =>
 (n_.get?Internal (Int.toNat 2)).bind fun v16 =>
 (Ee n v2.fst.state.runs (Ls.mk v5.bus v5.fr v14 v16)).bind fun v17 =>
 some (.inl (Ab.mk (Ae.mk v2.fst.state.cards v12.fst v17.fst v2.fst.state.records v2.fst.state.week v2.fst.state.roster),()))) else
 none) else
 none) (fun v10=>some (.inr (v2.fst,(v10.fst,())))) (v9)) else
 none) (fun v4=>some (.inr (v2.fst,(v4.fst,())))) (v3)) else
 none
def Zhc:LB:=⟨261,Zf8,XQ⟩
def fgarage_session_in_b:LB:=lw Tryz.func194 [.u 114,.v 3] 1 [⟨.ret,[.u 114],[],[]⟩,⟨.pan,[.u 114],[],[.i 234 (.g 234)]⟩] (u2 CW) [Zf9,fgarage_ask_b,Zcc,Zgw,Zhc,Ze4] []
def Bk:Nat→(List Aa)→Aa→Int→Int→Option ((Aa×Unit) ⊕ ((Aa×Int×Unit)))
 | 0,_,_,_,_=>none
 | n+1,s,v,x7,x8 =>
  bif decide (x8<x7) then((Ao s x8).bind fun v0 =>
  bif decide (v.machine=v0.machine) && (decide (v.seq=v0.seq) && (decide (v.minute=v0.minute) && (decide (v.kind.n=v0.kind.n) && (decide (v.a=v0.a) && (decide (v.b=v0.b) && true))))) then(some (.inr (v,(x8,())))) else
  Bk n s v x7 (IntKind.i64.wrap (x8+1))) else
  some (.inl (v,()))
def Fs (n:Nat) (s:List Aa) (v:Aa):Option ((Int×Unit)) :=
 (Bk n s v (↑s.length:Int) 0).bind fun v0 =>
 Sum.elim (fun v1=>some (-1,())) (fun v1=>some (v1.snd.fst,())) (v0)
def Zdn:CB Tryz.f341:=lp 2 [(0,.l 93),(3,.u 93),(7,.s 3),(8,.s 3)] 1 [⟨.exit 0,[.u 93],[],[]⟩,⟨.ret,[.u 93],[(4,.s 3)],[]⟩] (u4 Bk) [] []
def Zd8:LB:=(lw Tryz.func341 [.l 93,.g 93] 0 (rt [.s 3]) (u2 Fs) [] [Zdn]).rd
def Co (n:Nat) (s:List Aa) (v:Aa):Option ((Bool×Unit)) :=
 (Fs n s v).bind fun v0 =>
 some (decide (v0.fst≥0),())
def Zdo:LB:=(lw Tryz.func311 [.l 93,.g 93] 0 (rt [.s 4]) (u2 Co) [Zd8] []).rd
def Cz (n:Nat) (r:Aa):Option ((Bool×Unit)) :=
 bif decide (0≤r.machine) then(bif decide (r.machine≤999) then(bif decide (1≤r.seq) then(bif decide (r.seq≤9999) then(bif decide (0≤r.minute) then(bif decide (r.minute≤1000000) then(bif decide (IntKind.i64.wrap r.kind.n<(↑[G0.mk (Fp.mk (↑302:Int)),G0.mk (Fp.mk (↑303:Int)),G0.mk (Fp.mk (↑304:Int))].length:Int)) then((Ao [G0.mk (Fp.mk (↑302:Int)),G0.mk (Fp.mk (↑303:Int)),G0.mk (Fp.mk (↑304:Int))] r.kind.n).bind fun v0 =>
 ([G0.mk (Fp.mk (↑302:Int)),G0.mk (Fp.mk (↑303:Int)),G0.mk (Fp.mk (↑304:Int))].get?Internal r.kind.n.toNat).bind fun v1 =>
 bif decide (v1.right.f=(↑302:Int)) then(bif decide (0≤r.a) then(bif decide (r.a≤99) then(bif decide (0≤r.b) then(some (decide (r.b≤10000),())) else
 some (false,())) else
 some (false,())) else
 some (false,())) else
 bif decide (v1.right.f=(↑303:Int)) then(bif decide (0≤r.a) then(bif decide (r.a≤1000000) then(some (decide (r.b=0),())) else
 some (false,())) else
 some (false,())) else
 bif decide (v1.right.f=(↑304:Int)) then(bif decide (0≤r.a) then(bif decide (r.a≤9999) then(bif decide (0≤r.b) then(some (decide (r.b≤10000000),())) else
 some (false,())) else
 some (false,())) else
 some (false,())) else
 none) else
 some (false,())) else
 some (false,())) else
 some (false,())) else
 some (false,())) else
 some (false,())) else
 some (false,())) else
 some (false,())
def ZdE:LB:=lw Tryz.func186 [.g 93] 0 (rt [.s 4]) (u1 Cz) [] []
def C0:List (Nat×C):=[(0,.l 28),(1,.f 246 [] [.p 0 [.f 183 [] []]]),(7,.s 3),(8,.s 3)]
def FP:List Wo:=[⟨.exit 0,[.p 0 [.f 183 [] []]],[],[]⟩,⟨.ret,[.p 0 [.f 183 [] []]],[(4,.s 3)],[]⟩]
def C1:List (Nat×C):=[(0,.l 28),(1,.f 246 [] [.p 0 [.f 184 [] []]]),(7,.s 3),(8,.s 3)]
def FQ:List Wo:=[⟨.exit 0,[.p 0 [.f 184 [] []]],[],[]⟩,⟨.ret,[.p 0 [.f 184 [] []]],[(4,.s 3)],[]⟩]
def FC:List (Nat×C):=[(0,.l 28)]
def H4:List Wo:=[⟨.ret,[],[],[.s 3]⟩]
def Bw:Nat→(List Aa)→Int→Int→Option ((((Unit×Unit)×Unit)×Unit) ⊕ ((((Unit×Unit)×Unit)×Int×Unit)))
 | 0,_,_,_=>none
 | n+1,s,x7,x8 =>
  bif decide (x8<x7) then((Ao s x8).bind fun v0 =>
  (Cz n v0).bind fun v1 =>
  bif !v1.fst then(some (.inr ((((),()),()),(x8,())))) else
  Bw n s x7 (IntKind.i64.wrap (x8+1))) else
  some (.inl ((((),()),()),()))
def BI:Nat→(List (List Aa))→Int→Int→Option ((((Unit×Unit)×Unit)×Unit) ⊕ ((((Unit×Unit)×Unit)×Int×Unit)))
 | 0,_,_,_=>none
 | n+1,s,x7,x8 =>
  bif decide (x8<x7) then((Ao s x8).bind fun v0 =>
  bif !decide ((↑v0.length:Int)≤60) then(some (.inr ((((),()),()),(x8,())))) else
  BI n s x7 (IntKind.i64.wrap (x8+1))) else
  some (.inl ((((),()),()),()))
def DN (n:Nat) (y:C.Ds Ty (AH C0)):Option (YT Ty FP):=BI n y.1 y.2.2.1 y.2.2.2.1
def ZbW (n:Nat):St Ty→Tr (Lf Ty):=MU C0 1 FP (DN n)
def AQ:Nat→(List (List Aa))→Int→Int→Option ((((Unit×Unit)×Unit)×Unit) ⊕ ((((Unit×Unit)×Unit)×Int×Unit)))
 | 0,_,_,_=>none
 | n+1,s,x7,x8 =>
  bif decide (x8<x7) then((Ao s x8).bind fun v0 =>
  (Bw n v0 (↑v0.length:Int) 0).bind fun v1 =>
  Sum.elim (fun v2=>AQ n s x7 (IntKind.i64.wrap (x8+1))) (fun v2=>bif !!decide (v2.snd.fst≥0) then(some (.inr ((((),()),()),(x8,())))) else
  AQ n s x7 (IntKind.i64.wrap (x8+1))) (v1)) else
  some (.inl ((((),()),()),()))
def DO (n:Nat) (y:C.Ds Ty (AH C1)):Option (YT Ty FQ):=AQ n y.1 y.2.2.1 y.2.2.2.1
def ZbX (n:Nat):St Ty→Tr (Lf Ty):=MU C1 1 FQ (DO n)
def GP (n:Nat) (lists:List (List Aa)):Option ((Int×Unit)) :=
 bif !decide ((↑lists.length:Int)>6) then((BI n lists (↑lists.length:Int) 0).bind fun v0 =>
 Sum.elim (fun v1=>(AQ n lists (↑lists.length:Int) 0).bind fun v2 =>
 Sum.elim (fun v3=>some (0,())) (fun v3=>bif !!decide (v3.snd.fst≥0) then(some (1,())) else
 some (0,())) (v2)) (fun v1=>bif !!decide (v1.snd.fst≥0) then(some (3,())) else
 (AQ n lists (↑lists.length:Int) 0).bind fun v2 =>
 Sum.elim (fun v3=>some (0,())) (fun v3=>bif !!decide (v3.snd.fst≥0) then(some (1,())) else
 some (0,())) (v2)) (v0)) else
 some (3,())
def Kb (n:Nat) (y:C.Ds Ty (AH FC)):Option (YT Ty H4):=GP n y.1
def Zde (n:Nat):GL Ty:=Ui (FA FC 0 H4 (Kb n))
def ZbI:List LB:=[ZdE]
def fsheet_checked_i1_b:CB Tryz.f301:=lp 2 [(0,.l 93),(1,.f 248 [] [.p 0 [.f 186 [] []]]),(7,.s 3),(8,.s 3)] 1 [⟨.exit 0,[.p 0 [.f 186 [] []]],[],[]⟩,⟨.ret,[.p 0 [.f 186 [] []]],[(4,.s 3)],[]⟩] (fun n y=>Bw n y.1 y.2.2.1 y.2.2.2.1) ZbI []
def Zcu (n:Nat):Lm Ty:=[(301,[(.loop 2,(fsheet_checked_i1_b.F n))])]
theorem HZ (n:Nat):HX Tryz.prog (Zcu n):=⟨EU (f:=301) Tryz.func301 rfl (A0 (fn:=Tryz.f301) (L:=[(.loop 2,(fsheet_checked_i1_b.F n))]) (ks:=[.loop 2]) ⟨fsheet_checked_i1_b.ok n,trivial⟩ (by kernel_rfl) (by kernel_rfl)),trivial⟩
def ZcP (n:Nat):FO Ty:=[]
theorem Mg (n:Nat) (x:C.Ds Ty (AH C0)):(CI Tryz.prog 19 (Ca Tryz.prog ((Rx ZbI n)) (Zcu n)) (A6 (ZcP n)) (Cv 2 Tryz.f300) (By C0 x)).runK (Gn 1 C0 FP (DN n))=DN (n+1) x:=by kernel_rfl
theorem Mh (n:Nat):B7 true Tryz.prog 19 (ZbW n) (.loop (Cv 2 Tryz.f300)):=H1 fun x y hy=>Fk (Fn:=DN) Af Am (fun n=>A5 Af Am ((Es ZbI n)) (HZ n)) (fun h=>by cases h) (fun h=>by cases h) (fun n=>(A0 (fn:=Tryz.f300) (L:=ZcP n) (ks:=[]) trivial (by kernel_rfl) (by kernel_rfl))) (by decide) (fun _=>rfl) Mg hy
def ZcQ (n:Nat):FO Ty:=[]
theorem Mi (n:Nat) (x:C.Ds Ty (AH C1)):(CI Tryz.prog 19 (Ca Tryz.prog ((Rx ZbI n)) (Zcu n)) (A6 (ZcQ n)) (Cv 2 Tryz.f300) (By C1 x)).runK (Gn 1 C1 FQ (DO n))=DO (n+1) x:=by kernel_rfl
theorem Mj (n:Nat):B7 true Tryz.prog 19 (ZbX n) (.loop (Cv 2 Tryz.f300)):=H1 fun x y hy=>Fk (Fn:=DO) Af Am (fun n=>A5 Af Am ((Es ZbI n)) (HZ n)) (fun h=>by cases h) (fun h=>by cases h) (fun n=>(A0 (fn:=Tryz.f300) (L:=ZcQ n) (ks:=[]) trivial (by kernel_rfl) (by kernel_rfl))) (by decide) (fun _=>rfl) Mi hy
def Zdj (n:Nat):Lm Ty:=[(301,[(.loop 2,(fsheet_checked_i1_b.F n))]),(300,[(.loop 2,Agn (ZbW n) (ZbX n))])]
theorem MX (n:Nat):HX Tryz.prog (Zdj n):=⟨EU (f:=301) Tryz.func301 rfl (A0 (fn:=Tryz.f301) (L:=[(.loop 2,(fsheet_checked_i1_b.F n))]) (ks:=[.loop 2]) ⟨fsheet_checked_i1_b.ok n,trivial⟩ (by kernel_rfl) (by kernel_rfl)),⟨EU (f:=300) Tryz.func300 rfl (A0 (fn:=Tryz.f300) (L:=[(.loop 2,Agn (ZbW n) (ZbX n))]) (ks:=[.loop 2]) ⟨Ac3 (Mh n) (Mj n),trivial⟩ (by kernel_rfl) (by kernel_rfl)),trivial⟩⟩
def Zdu (n:Nat):FO Ty:=[]
theorem Pw (n:Nat) (x:C.Ds Ty (AH FC)):(CI Tryz.prog 16 (Ca Tryz.prog ((Rx ZbI n)) (Zdj n)) (A6 (Zdu n)) (Bz Tryz.f130) (By FC x)).runK (GN Tryz.prog Tryz.f130.results.toList 0 H4)=Kb n x:=by kernel_rfl
theorem Ml (n:Nat):Bb Tryz.prog 130 (Zde n):=Ma (HT Tryz.func130 rfl rfl (by decide) rfl Af Am (A5 Af Am ((Es ZbI n)) (MX n)) (A0 (fn:=Tryz.f130) (L:=Zdu n) (ks:=[]) trivial (by kernel_rfl) (by kernel_rfl)) (Pw n))
def Bo:Nat→(List (HD×Aa))→(List Aa)→(List Aa)→Int→Int→Option (((List (HD×Aa))×List Aa×Unit) ⊕ (((List (HD×Aa))×List Aa×Int×Unit)))
 | 0,_,_,_,_,_=>none
 | n+1,known,out,x21,x22,x23 =>
  bif decide (x23<x22) then((Ao x21 x23).bind fun v0 =>
  bif Ct A3 known (HD.mk v0.machine v0.seq) then(bif !(decide ((AG A3 known (HD.mk v0.machine v0.seq) (Aa.mk 0 0 0 (IK.mk 0) 0 0)).machine=v0.machine) && (decide ((AG A3 known (HD.mk v0.machine v0.seq) (Aa.mk 0 0 0 (IK.mk 0) 0 0)).seq=v0.seq) && (decide ((AG A3 known (HD.mk v0.machine v0.seq) (Aa.mk 0 0 0 (IK.mk 0) 0 0)).minute=v0.minute) && (decide ((AG A3 known (HD.mk v0.machine v0.seq) (Aa.mk 0 0 0 (IK.mk 0) 0 0)).kind.n=v0.kind.n) && (decide ((AG A3 known (HD.mk v0.machine v0.seq) (Aa.mk 0 0 0 (IK.mk 0) 0 0)).a=v0.a) && (decide ((AG A3 known (HD.mk v0.machine v0.seq) (Aa.mk 0 0 0 (IK.mk 0) 0 0)).b=v0.b) && true)))))) then(some (.inr (known,([],(6,()))))) else
  bif !Ct A3 known (HD.mk v0.machine v0.seq) then((app out [v0]).bind fun v1 =>
  Bo n (FY A3 known (HD.mk v0.machine v0.seq) v0) v1 x21 x22 (IntKind.i64.wrap (x23+1))) else
  Bo n known out x21 x22 (IntKind.i64.wrap (x23+1))) else
  bif !Ct A3 known (HD.mk v0.machine v0.seq) then((app out [v0]).bind fun v1 =>
  Bo n (FY A3 known (HD.mk v0.machine v0.seq) v0) v1 x21 x22 (IntKind.i64.wrap (x23+1))) else
  Bo n known out x21 x22 (IntKind.i64.wrap (x23+1))) else
  some (.inl (known,(out,())))
def BZ:Nat→(List Aa)→Int→Int→Option ((List Aa×Unit) ⊕ ((List Aa×Int×Unit)))
 | 0,_,_,_=>none
 | n+1,out,x57,x58 =>
  bif decide (x58<x57) then((Ao out x58).bind fun v0 =>
  (out.get?Internal x58.toNat).bind fun v1 =>
  bif decide (x58>0) then((Ao out (IntKind.i64.wrap (x58-1))).bind fun v2 =>
  (out.get?Internal (IntKind.i64.wrap (x58-1)).toNat).bind fun v3 =>
  bif decide (v3.machine=v1.machine) then((Ao out (IntKind.i64.wrap (x58-1))).bind fun v4 =>
  (out.get?Internal (IntKind.i64.wrap (x58-1)).toNat).bind fun v5 =>
  bif decide (v5.minute>v1.minute) then(some (.inr ([],(6,())))) else
  BZ n out x57 (IntKind.i64.wrap (x58+1))) else
  BZ n out x57 (IntKind.i64.wrap (x58+1))) else
  BZ n out x57 (IntKind.i64.wrap (x58+1))) else
  some (.inl (out,()))
def EH (n:Nat) (lists:List (List Aa)):Option ((List Aa×Int×Unit)) :=
 (GP n lists).bind fun v0 =>
 bif v0.fst != 0 then(some ([],(v0.fst,()))) else
 (RR n lists).bind fun v1 =>
 (Bo n [] [] v1.fst (↑v1.fst.length:Int) 0).bind fun v2 =>
 Sum.elim (fun v3=>(AdS v3.snd.fst).bind fun v4 =>
 (BZ n v4 (↑v4.length:Int) 0).bind fun v5 =>
 Sum.elim (fun v6=>some (v6.fst,(0,()))) (fun v6=>some (v6.fst,(v6.snd.fst,()))) (v5)) (fun v3=>some (v3.snd.fst,(v3.snd.snd.fst,()))) (v2)
def Zfu:LB:=⟨130,Zde,Ml⟩
def Zhh:LB:=⟨132,Zgr,Aag⟩
def ZcF:List LB:=[Zfu,ZgW,Zhh]
def Ze5:CB Tryz.f81:=lp 7 [(5,.m 227 93),(6,.o 93),(21,.l 93),(22,.s 3),(23,.s 3)] 1 [⟨.exit 0,[.m 227 93],[(6,.o 93)],[]⟩,⟨.ret,[.m 227 93],[(2,.l 93),(3,.s 3)],[]⟩] (u5 Bo) ZcF []
def Ze6:CB Tryz.f81:=lp 19 [(6,.o 93),(56,.r 93 0),(57,.s 3),(58,.s 3)] 0 [⟨.exit 2,[],[(6,.o 93)],[]⟩,⟨.ret,[],[(2,.l 93),(3,.s 3)],[]⟩] (fun n y=>BZ n y.1 y.2.2.1 y.2.2.2.1) ZcF []
def Zd2:LB:=lw Tryz.func81 [.l 28] 0 (rt [.l 93,.s 3]) (u1 EH) ZcF [Ze5,Ze6]
def Im (n:Nat) (lists:List (List Aa)):Option ((List Aa×Int×Unit)) :=
 (EH n lists).bind fun v0 =>
 bif v0.snd.fst != 0 then(some ([],(v0.snd.fst,()))) else
 bif decide ((↑v0.fst.length:Int)>60) then(some ([],(3,()))) else
 some (v0.fst,(0,()))
def ZfX:LB:=lw Tryz.func312 [.l 28] 0 (rt [.l 93,.s 3]) (u1 Im) [Zd2] []
def DP (n:Nat) (l:List Aa) (x:Aa):Option ((List Aa×Unit)) :=
 (XO n l).bind fun v0 =>
 (app v0.fst [x]).bind fun v1 =>
 some (v1,())
def ZgZ:LB:=⟨342,Zfh,Vh⟩
def ZdF:LB:=lw Tryz.func313 [.l 93,.g 93] 0 (rt [.l 93]) (u2 DP) [ZgZ] []
def Bp (n:Nat) (g:Ab) (r:Aa):Option ((Ab×Unit) ⊕ ((Ab×Az×Unit))) :=
 (Co n g.state.records r).bind fun v0 =>
 (Au n (!v0.fst) 6).bind fun v1 =>
 Sum.elim (fun v2=>(Im n [g.state.records,[r]]).bind fun v3 =>
 (C9 n v3.snd.fst).bind fun v4 =>
 Sum.elim (fun v5=>(DP n g.state.records r).bind fun v6 =>
 some (.inl (Ab.mk (Ae.mk g.state.cards g.state.outs g.state.runs v6.fst g.state.week g.state.roster),()))) (fun v5=>some (.inr (g,(v5.fst,())))) (v4)) (fun v2=>some (.inr (g,(v2.fst,())))) (v1)
def ZbP:LB:=lw Tryz.func264 [.u 114,.g 93] 1 [⟨.ret,[.u 114],[],[]⟩,⟨.pan,[.u 114],[],[.i 234 (.g 234)]⟩] (u2 Bp) [Zdo,fgarage_ask_b,ZfX,ZbV,ZdF] []
def D0 (n:Nat) (g:Ab) (n_:List Int):Option ((Ab×Unit) ⊕ ((Ab×Az×Unit))) :=
 bif n_.length.beq 5 then((Ao n_ 0).bind fun v0 =>
 (n_.get?Internal (Int.toNat 0)).bind fun v1 =>
 bif n_.length.beq 5 then((Ao n_ 1).bind fun v2 =>
 (n_.get?Internal (Int.toNat 1)).bind fun v3 =>
 bif n_.length.beq 5 then((Ao n_ 2).bind fun v4 =>
 (n_.get?Internal (Int.toNat 2)).bind fun v5 =>
 bif n_.length.beq 5 then((Ao n_ 3).bind fun v6 =>
 (n_.get?Internal (Int.toNat 3)).bind fun v7 =>
 bif n_.length.beq 5 then((Ao n_ 4).bind fun v8 =>
 (n_.get?Internal (Int.toNat 4)).bind fun v9 =>
 (Bp n g (Aa.mk v1 v3 v5 (IK.mk 0) v7 v9)).bind fun v10 =>
 Sum.elim (fun v11=>some (.inl (v11.fst,()))) (fun v11=>some (.inr (v11.fst,(v11.snd.fst,())))) (v10)) else
 none) else
 none) else
 none) else
 none) else
 none
def fgarage_session_sale_b:LB:=lw Tryz.func195 [.u 114,.v 3] 1 [⟨.ret,[.u 114],[],[]⟩,⟨.pan,[.u 114],[],[.i 234 (.g 234)]⟩] (u2 D0) [ZbP] []
def D1 (n:Nat) (g:Ab) (n_:List Int):Option ((Ab×Unit) ⊕ ((Ab×Az×Unit))) :=
 bif n_.length.beq 5 then((Ao n_ 0).bind fun v0 =>
 (n_.get?Internal (Int.toNat 0)).bind fun v1 =>
 bif n_.length.beq 5 then((Ao n_ 1).bind fun v2 =>
 (n_.get?Internal (Int.toNat 1)).bind fun v3 =>
 bif n_.length.beq 5 then((Ao n_ 2).bind fun v4 =>
 (n_.get?Internal (Int.toNat 2)).bind fun v5 =>
 bif n_.length.beq 5 then((Ao n_ 3).bind fun v6 =>
 (n_.get?Internal (Int.toNat 3)).bind fun v7 =>
 (Bp n g (Aa.mk v1 v3 v5 (IK.mk 1) v7 0)).bind fun v8 =>
 Sum.elim (fun v9=>some (.inl (v9.fst,()))) (fun v9=>some (.inr (v9.fst,(v9.snd.fst,())))) (v8)) else
 none) else
 none) else
 none) else
 none
def fgarage_session_sync_b:LB:=lw Tryz.func196 [.u 114,.v 3] 1 [⟨.ret,[.u 114],[],[]⟩,⟨.pan,[.u 114],[],[.i 234 (.g 234)]⟩] (u2 D1) [ZbP] []
def Df (n:Nat) (g:Ab) (n_:List Int):Option ((Ab×Unit) ⊕ ((Ab×Az×Unit))) :=
 bif n_.length.beq 5 then((Ao n_ 0).bind fun v0 =>
 (n_.get?Internal (Int.toNat 0)).bind fun v1 =>
 bif n_.length.beq 5 then((Ao n_ 1).bind fun v2 =>
 (n_.get?Internal (Int.toNat 1)).bind fun v3 =>
 bif n_.length.beq 5 then((Ao n_ 2).bind fun v4 =>
 (n_.get?Internal (Int.toNat 2)).bind fun v5 =>
 bif n_.length.beq 5 then((Ao n_ 3).bind fun v6 =>
 (n_.get?Internal (Int.toNat 3)).bind fun v7 =>
 bif n_.length.beq 5 then((Ao n_ 4).bind fun v8 =>
 (n_.get?Internal (Int.toNat 4)).bind fun v9 =>
 (Bp n g (Aa.mk v1 v3 v5 (IK.mk 2) v7 v9)).bind fun v10 =>
 Sum.elim (fun v11=>some (.inl (v11.fst,()))) (fun v11=>some (.inr (v11.fst,(v11.snd.fst,())))) (v10)) else
 none) else
 none) else
 none) else
 none) else
 none
def fgarage_session_close_b:LB:=lw Tryz.func197 [.u 114,.v 3] 1 [⟨.ret,[.u 114],[],[]⟩,⟨.pan,[.u 114],[],[.i 234 (.g 234)]⟩] (u2 Df) [ZbP] []
def DQ (n:Nat) (l:List AJ) (x:AJ):Option ((List AJ×Unit)) :=
 (Uz n l).bind fun v0 =>
 (app v0.fst [x]).bind fun v1 =>
 some (v1,())
def ZgT:LB:=⟨314,Zez,U0⟩
def ZdG:LB:=lw Tryz.func265 [.l 186,.g 186] 0 (rt [.l 186]) (u2 DQ) [ZgT] []
def D3 (n:Nat) (w:Ai) (d:AA):Option ((Bool×Unit)) :=
 bif decide (0≤d.day) then(bif decide (d.day≤IntKind.i64.wrap (w.days-1)) then(bif decide (0≤d.on) then(bif decide (d.on≤1439) then(bif decide (d.on≤d.off.lo) then(bif decide (d.off.lo≤d.off.hi) then(bif decide (d.off.hi≤IntKind.i64.wrap (d.on+1440)) then(bif decide (0≤d.route) then(some (decide (d.route≤15),())) else
 some (false,())) else
 some (false,())) else
 some (false,())) else
 some (false,())) else
 some (false,())) else
 some (false,())) else
 some (false,())) else
 some (false,())
def Zek:LB:=lw Tryz.func116 [.g 32,.g 184] 0 (rt [.s 4]) (u2 D3) [] []
def FE:Nat→(List Int)→Int→Int→(List Int)→Int→Int→Option (Unit ⊕ ((Bool×Unit)))
 | 0,_,_,_,_,_,_=>none
 | n+1,l,low,high,x9,x10,x11 =>
  bif decide (x11<x10) then((Ao x9 x11).bind fun v0 =>
  bif decide (low≤v0) then(bif !!decide (v0≤high) then(bif decide (x11>0) then((Ao l (IntKind.i64.wrap (x11-1))).bind fun v1 =>
  bif decide (v0≤v1) then(some (.inr (false,()))) else
  FE n l low high x9 x10 (IntKind.i64.wrap (x11+1))) else
  FE n l low high x9 x10 (IntKind.i64.wrap (x11+1))) else
  some (.inr (false,()))) else
  some (.inr (false,()))) else
  some (.inl ())
def EI (n:Nat) (l:List Int) (low:Int) (high:Int):Option ((Bool×Unit)) :=
 (FE n l low high l (↑l.length:Int) 0).bind fun v0 =>
 Sum.elim (fun v1=>some (true,())) (fun v1=>some (v1.fst,())) (v0)
def Ze7:CB Tryz.f172:=lp 2 [(0,.l 3),(1,.s 3),(2,.s 3),(9,.l 3),(10,.s 3),(11,.s 3)] 0 [⟨.exit 0,[],[],[]⟩,⟨.ret,[],[(6,.s 4)],[]⟩] (u6 FE) [] []
def ZfA:LB:=(lw Tryz.func172 [.l 3,.s 3,.s 3] 0 (rt [.s 4]) (u3 EI) [] [Ze7]).rd
def C2 (n:Nat) (w:Ai) (d:AJ):Option ((Bool×Unit)) :=
 (EI n d.knows 0 15).bind fun v0 =>
 bif v0.fst then((EI n d.leave 0 (IntKind.i64.wrap (w.days-1))).bind fun v1 =>
 bif v1.fst then((EI n d.wish 0 (IntKind.i64.wrap (w.days-1))).bind fun v2 =>
 bif v2.fst then(bif decide (-10080≤d.off) then(bif decide (d.off≤1440) then(bif decide (0≤d.row) then(bif decide (d.row≤14) then(bif decide (0≤d.used) then(some (decide (d.used≤w.hours),())) else
 some (false,())) else
 some (false,())) else
 some (false,())) else
 some (false,())) else
 some (false,())) else
 some (false,())) else
 some (false,())) else
 some (false,())
def ZdH:LB:=lw Tryz.func118 [.g 32,.g 186] 0 (rt [.s 4]) (u2 C2) [ZfA] []
def BJ:List (Nat×C):=[(0,.l 186),(1,.f 171 [] [.p 0 [.f 118 [.g 32] []]]),(7,.s 3),(8,.s 3)]
def E0:List Wo:=[⟨.exit 0,[.p 0 [.f 118 [.g 32] []]],[],[]⟩,⟨.ret,[.p 0 [.f 118 [.g 32] []]],[(4,.s 3)],[]⟩]
def DR:List (Nat×C):=[(0,.g 32)]
def FR:List Wo:=[⟨.ret,[],[],[.s 3]⟩]
def AS:Nat→(List AA)→Ai→Int→Int→Option (((((Ai×Unit)×Unit)×Unit)×Unit) ⊕ (((((Ai×Unit)×Unit)×Unit)×Int×Unit)))
 | 0,_,_,_,_=>none
 | n+1,s,f,x7,x8 =>
  bif decide (x8<x7) then((Ao s x8).bind fun v0 =>
  (D3 n f v0).bind fun v1 =>
  bif !v1.fst then(some (.inr ((((f,()),()),()),(x8,())))) else
  AS n s f x7 (IntKind.i64.wrap (x8+1))) else
  some (.inl ((((f,()),()),()),()))
def AT:Nat→(List AJ)→Ai→Int→Int→Option (((((Ai×Unit)×Unit)×Unit)×Unit) ⊕ (((((Ai×Unit)×Unit)×Unit)×Int×Unit)))
 | 0,_,_,_,_=>none
 | n+1,s,f,x7,x8 =>
  bif decide (x8<x7) then((Ao s x8).bind fun v0 =>
  (C2 n f v0).bind fun v1 =>
  bif !v1.fst then(some (.inr ((((f,()),()),()),(x8,())))) else
  AT n s f x7 (IntKind.i64.wrap (x8+1))) else
  some (.inl ((((f,()),()),()),()))
def CC (n:Nat) (y:C.Ds Ty (AH BJ)):Option (YT Ty E0):=AT n y.1 y.2.1.2.1.1.1.1 y.2.2.1 y.2.2.2.1
def ZbQ (n:Nat):St Ty→Tr (Lf Ty):=MU BJ 1 E0 (CC n)
def Cp (n:Nat) (w:Ai):Option ((Int×Unit)) :=
 bif !decide ((↑w.duties.length:Int)>12) then(bif decide ((↑w.drivers.length:Int)>6) then(some (3,())) else
 bif decide (1≤w.days) then(bif !!decide (w.days≤7) then(bif decide (0≤w.rest) then(bif !!decide (w.rest≤3000) then(bif decide (1≤w.run) then(bif !!decide (w.run≤14) then(bif decide (0≤w.hours) then(bif !decide (w.hours≤20000) then(some (1,())) else
 (AS n w.duties w (↑w.duties.length:Int) 0).bind fun v0 =>
 Sum.elim (fun v1=>(AT n w.drivers w (↑w.drivers.length:Int) 0).bind fun v2 =>
 Sum.elim (fun v3=>some (0,())) (fun v3=>bif !!decide (v3.snd.fst≥0) then(some (1,())) else
 some (0,())) (v2)) (fun v1=>bif !!!decide (v1.snd.fst≥0) then((AT n w.drivers w (↑w.drivers.length:Int) 0).bind fun v2 =>
 Sum.elim (fun v3=>some (0,())) (fun v3=>bif !!decide (v3.snd.fst≥0) then(some (1,())) else
 some (0,())) (v2)) else
 some (1,())) (v0)) else
 some (1,())) else
 some (1,())) else
 some (1,())) else
 some (1,())) else
 some (1,())) else
 some (1,())) else
 some (1,())) else
 some (3,())
def Ia (n:Nat) (y:C.Ds Ty (AH DR)):Option (YT Ty FR):=Cp n y.1
def Zc4 (n:Nat):GL Ty:=FA DR 0 FR (Ia n)
def ZbJ:List LB:=[Zek,ZdH]
def froster_CheckWeek_i1_b:CB Tryz.f234:=lp 2 [(0,.l 184),(1,.f 169 [] [.p 0 [.f 116 [.g 32] []]]),(7,.s 3),(8,.s 3)] 1 [⟨.exit 0,[.p 0 [.f 116 [.g 32] []]],[],[]⟩,⟨.ret,[.p 0 [.f 116 [.g 32] []]],[(4,.s 3)],[]⟩] (fun n y=>AS n y.1 y.2.1.2.1.1.1.1 y.2.2.1 y.2.2.2.1) ZbJ []
def ZcG (n:Nat):Lm Ty:=[(234,[(.loop 2,(froster_CheckWeek_i1_b.F n))])]
theorem KH (n:Nat):HX Tryz.prog (ZcG n):=⟨EU (f:=234) Tryz.func234 rfl (A0 (fn:=Tryz.f234) (L:=[(.loop 2,(froster_CheckWeek_i1_b.F n))]) (ks:=[.loop 2]) ⟨froster_CheckWeek_i1_b.ok n,trivial⟩ (by kernel_rfl) (by kernel_rfl)),trivial⟩
def Zcx (n:Nat):FO Ty:=[]
theorem Kc (n:Nat) (x:C.Ds Ty (AH BJ)):(CI Tryz.prog 19 (Ca Tryz.prog ((Rx ZbJ n)) (ZcG n)) (A6 (Zcx n)) (Cv 2 Tryz.f235) (By BJ x)).runK (Gn 1 BJ E0 (CC n))=CC (n+1) x:=by kernel_rfl
theorem Kd (n:Nat):B7 true Tryz.prog 19 (ZbQ n) (.loop (Cv 2 Tryz.f235)):=H1 fun x y hy=>Fk (Fn:=CC) Af Am (fun n=>A5 Af Am ((Es ZbJ n)) (KH n)) (fun h=>by cases h) (fun h=>by cases h) (fun n=>(A0 (fn:=Tryz.f235) (L:=Zcx n) (ks:=[]) trivial (by kernel_rfl) (by kernel_rfl))) (by decide) (fun _=>rfl) Kc hy
def ZcH (n:Nat):Lm Ty:=[(234,[(.loop 2,(froster_CheckWeek_i1_b.F n))]),(235,[(.loop 2,ZbQ n)])]
theorem KI (n:Nat):HX Tryz.prog (ZcH n):=⟨EU (f:=234) Tryz.func234 rfl (A0 (fn:=Tryz.f234) (L:=[(.loop 2,(froster_CheckWeek_i1_b.F n))]) (ks:=[.loop 2]) ⟨froster_CheckWeek_i1_b.ok n,trivial⟩ (by kernel_rfl) (by kernel_rfl)),⟨EU (f:=235) Tryz.func235 rfl (A0 (fn:=Tryz.f235) (L:=[(.loop 2,ZbQ n)]) (ks:=[.loop 2]) ⟨Kd n,trivial⟩ (by kernel_rfl) (by kernel_rfl)),trivial⟩⟩
def ZcR (n:Nat):FO Ty:=[]
theorem Mm (n:Nat) (x:C.Ds Ty (AH DR)):(CI Tryz.prog 52 (Ca Tryz.prog ((Rx ZbJ n)) (ZcH n)) (A6 (ZcR n)) (Bz Tryz.f71) (By DR x)).runK (GN Tryz.prog Tryz.f71.results.toList 0 FR)=Ia n x:=by kernel_rfl
theorem Ke (n:Nat):Bb Tryz.prog 71 (Zc4 n):=HT Tryz.func71 rfl rfl (by decide) rfl Af Am (A5 Af Am ((Es ZbJ n)) (KI n)) (A0 (fn:=Tryz.f71) (L:=ZcR n) (ks:=[]) trivial (by kernel_rfl) (by kernel_rfl)) (Mm n)
def BK (n:Nat) (g:Ab) (n_:List Int):Option ((Ab×Unit) ⊕ ((Ab×Az×Unit))) :=
 bif n_.length.beq 5 then((Ao n_ 0).bind fun v0 =>
 (n_.get?Internal (Int.toNat 0)).bind fun v1 =>
 bif n_.length.beq 5 then((Ao n_ 1).bind fun v2 =>
 (n_.get?Internal (Int.toNat 1)).bind fun v3 =>
 (DQ n g.state.week.drivers (AJ.mk [v1] [] [] v3 0 0)).bind fun v4 =>
 (Cp n (Ai.mk g.state.week.days g.state.week.duties v4.fst g.state.week.rest g.state.week.run g.state.week.hours)).bind fun v5 =>
 (C9 n v5.fst).bind fun v6 =>
 Sum.elim (fun v7=>some (.inl (Ab.mk (Ae.mk g.state.cards g.state.outs g.state.runs g.state.records (Ai.mk g.state.week.days g.state.week.duties v4.fst g.state.week.rest g.state.week.run g.state.week.hours) g.state.roster),()))) (fun v7=>some (.inr (g,(v7.fst,())))) (v6)) else
 none) else
 none
def Zce:LB:=⟨71,Zc4,Ke⟩
def fgarage_session_driver_b:LB:=lw Tryz.func198 [.u 114,.v 3] 1 [⟨.ret,[.u 114],[],[]⟩,⟨.pan,[.u 114],[],[.i 234 (.g 234)]⟩] (u2 BK) [ZdG,Zce,ZbV] []
def EZ (n:Nat) (l:List AA) (x:AA):Option ((List AA×Unit)) :=
 (U1 n l).bind fun v0 =>
 (app v0.fst [x]).bind fun v1 =>
 some (v1,())
def ZgU:LB:=⟨315,Ze0,U2⟩
def Zel:LB:=lw Tryz.func266 [.l 184,.g 184] 0 (rt [.l 184]) (u2 EZ) [ZgU] []
def FF (n:Nat) (l:List Int) (x:Int):Option ((List Int×Unit)) :=
 (NT n l).bind fun v0 =>
 (app v0.fst [x]).bind fun v1 =>
 some (v1,())
def Zg8:LB:=⟨268,Zf7,XM⟩
def Ze8:LB:=lw Tryz.func267 [.l 3,.s 3] 0 (rt [.l 3]) (u2 FF) [Zg8] []
def Cj (n:Nat) (g:Ab) (n_:List Int):Option ((Ab×Unit) ⊕ ((Ab×Az×Unit))) :=
 bif n_.length.beq 5 then((Ao n_ 0).bind fun v0 =>
 (n_.get?Internal (Int.toNat 0)).bind fun v1 =>
 bif n_.length.beq 5 then((Ao n_ 1).bind fun v2 =>
 (n_.get?Internal (Int.toNat 1)).bind fun v3 =>
 bif n_.length.beq 5 then((Ao n_ 2).bind fun v4 =>
 (n_.get?Internal (Int.toNat 2)).bind fun v5 =>
 bif n_.length.beq 5 then((Ao n_ 3).bind fun v6 =>
 (n_.get?Internal (Int.toNat 3)).bind fun v7 =>
 bif n_.length.beq 5 then((Ao n_ 4).bind fun v8 =>
 (n_.get?Internal (Int.toNat 4)).bind fun v9 =>
 (EZ n g.state.week.duties (AA.mk v1 v3 (Rg.mk v5 v7) v9)).bind fun v10 =>
 (Cp n (Ai.mk g.state.week.days v10.fst g.state.week.drivers g.state.week.rest g.state.week.run g.state.week.hours)).bind fun v11 =>
 (C9 n v11.fst).bind fun v12 =>
 Sum.elim (fun v13=>(FF n g.state.roster (-1)).bind fun v14 =>
 some (.inl (Ab.mk (Ae.mk g.state.cards g.state.outs g.state.runs g.state.records (Ai.mk g.state.week.days v10.fst g.state.week.drivers g.state.week.rest g.state.week.run g.state.week.hours) v14.fst),()))) (fun v13=>some (.inr (g,(v13.fst,())))) (v12)) else
 none) else
 none) else
 none) else
 none) else
 none
def fgarage_session_duty_b:LB:=lw Tryz.func199 [.u 114,.v 3] 1 [⟨.ret,[.u 114],[],[]⟩,⟨.pan,[.u 114],[],[.i 234 (.g 234)]⟩] (u2 Cj) [Zel,Zce,ZbV,Ze8] []
def Dg:List (Nat×C):=[(0,.g 32),(1,.l 3)]
def EP:List Wo:=[⟨.ret,[],[],[.s 4]⟩]
def AU:Nat→(List Int)→Ai→Int→Int→Option ((((Unit×(Ai×Unit))×Unit)×Unit×Unit) ⊕ ((((Unit×(Ai×Unit))×Unit)×Unit×Int×Unit)))
 | 0,_,_,_,_=>none
 | n+1,s,f,x7,x8 =>
  bif decide (x8<x7) then((Ao s x8).bind fun v0 =>
  bif decide (-1≤v0) then(bif !decide (v0≤IntKind.i64.wrap ((↑f.drivers.length:Int)-1)) then(some (.inr ((((),(f,())),()),((),(x8,()))))) else
  AU n s f x7 (IntKind.i64.wrap (x8+1))) else
  some (.inr ((((),(f,())),()),((),(x8,()))))) else
  some (.inl ((((),(f,())),()),((),())))
def DS (n:Nat) (w:Ai) (l:List Int):Option ((Bool×Unit)) :=
 bif decide ((↑l.length:Int)=(↑w.duties.length:Int)) then((AU n l w (↑l.length:Int) 0).bind fun v0 =>
 Sum.elim (fun v1=>some (!decide (-1≥0),())) (fun v1=>some (!decide (v1.snd.snd.fst≥0),())) (v0)) else
 some (false,())
def Hk (n:Nat) (y:C.Ds Ty (AH Dg)):Option (YT Ty EP):=DS n y.1 y.2.1
def Zcq (n:Nat):GL Ty:=Ui (FA Dg 0 EP (Hk n))
def Zc5:List LB:=[]
def froster_Week_roster_i1_b:CB Tryz.f236:=lp 2 [(0,.l 3),(1,.f 174 [] [.p 0 [.f 120 [] [.u 32]]]),(7,.s 3),(8,.s 3)] 2 [⟨.exit 0,[.p 0 [.f 120 [] [.u 32]],.q 1],[],[]⟩,⟨.ret,[.p 0 [.f 120 [] [.u 32]],.q 1],[(4,.s 3)],[]⟩] (fun n y=>AU n y.1 y.2.1.2.1.1.2.1 y.2.2.1 y.2.2.2.1) [] []
def Zcy (n:Nat):Lm Ty:=[(236,[(.loop 2,(froster_Week_roster_i1_b.F n))])]
theorem J4 (n:Nat):HX Tryz.prog (Zcy n):=⟨EU (f:=236) Tryz.func236 rfl (A0 (fn:=Tryz.f236) (L:=[(.loop 2,(froster_Week_roster_i1_b.F n))]) (ks:=[.loop 2]) ⟨froster_Week_roster_i1_b.ok n,trivial⟩ (by kernel_rfl) (by kernel_rfl)),trivial⟩
def Zc6 (n:Nat):FO Ty:=[]
theorem KJ (n:Nat) (x:C.Ds Ty (AH Dg)):(CI Tryz.prog 16 (Ca Tryz.prog ((Rx Zc5 n)) (Zcy n)) (A6 (Zc6 n)) (Bz Tryz.f72) (By Dg x)).runK (GN Tryz.prog Tryz.f72.results.toList 0 EP)=Hk n x:=by kernel_rfl
theorem IW (n:Nat):Bb Tryz.prog 72 (Zcq n):=Ma (HT Tryz.func72 rfl rfl (by decide) rfl Af Am (A5 Af Am ((Es Zc5 n)) (J4 n)) (A0 (fn:=Tryz.f72) (L:=Zc6 n) (ks:=[]) trivial (by kernel_rfl) (by kernel_rfl)) (KJ n))
def Ck:Nat→(List Int)→(List AA)→Int→Int→Option ((List Int×Unit))
 | 0,_,_,_,_=>none
 | n+1,out,x6,x7,x8 =>
  bif decide (x8<x7) then((Ao x6 x8).bind fun v0 =>
  (app out [v0.off.hi]).bind fun v1 =>
  Ck n v1 x6 x7 (IntKind.i64.wrap (x8+1))) else
  some (out,())
def Fa (n:Nat) (w:Ai):Option ((List Int×Unit)) :=
 (Ck n [] w.duties (↑w.duties.length:Int) 0).bind fun v0 =>
 some (v0.fst,())
def Zd9:CB Tryz.f122:=lp 2 [(2,.o 3),(6,.l 184),(7,.s 3),(8,.s 3)] 0 [⟨.exit 0,[],[(2,.o 3)],[]⟩] (u4 Ck) [] []
def Zem:LB:=lw Tryz.func122 [.g 32] 0 (rt [.l 3]) (u1 Fa) [] [Zd9]
def BL:Nat→(List Aj)→(List AJ)→Int→Int→Option ((List Aj×Unit×Unit))
 | 0,_,_,_,_=>none
 | n+1,out,x6,x7,x8 =>
  bif decide (x8<x7) then((Ao x6 x8).bind fun v0 =>
  bif out.length.beq 6 then((Ao out x8).bind fun v1 =>
  (out.get?Internal x8.toNat).bind fun v2 =>
  BL n (out.set x8.toNat (Aj.mk v0.off v0.row v0.used (-1))) x6 x7 (IntKind.i64.wrap (x8+1))) else
  none) else
  some (out,((),()))
def DT (n:Nat) (w:Ai):Option ((List Aj×Unit)) :=
 (BL n [Aj.mk 0 0 0 0,Aj.mk 0 0 0 0,Aj.mk 0 0 0 0,Aj.mk 0 0 0 0,Aj.mk 0 0 0 0,Aj.mk 0 0 0 0] w.drivers (↑w.drivers.length:Int) 0).bind fun v0 =>
 bif v0.fst.length.beq 6 then(bif v0.fst.length.beq 6 && v0.fst.length.beq 6 then(bif v0.fst.length.beq 6 then(some (v0.fst,())) else
 none) else
 none) else
 none
def Zdv:CB Tryz.f175:=lp 2 [(2,.a 267),(6,.l 186),(7,.s 3),(8,.s 3)] 1 [⟨.exit 0,[.a 267],[(2,.q 0)],[]⟩] (u4 BL) [] []
def ZdI:LB:=lw Tryz.func175 [.g 32] 0 (rt [.v 267]) (u1 DT) [] [Zdv]
def D4:List (Nat×C):=[(0,.g 32),(1,.s 3),(2,.g 184),(3,.g 267)]
def Ft:List Wo:=[⟨.ret,[],[],[.s 4]⟩]
def EQ:Nat→(List Int)→Int→Int→Int→Option (Unit ⊕ ((Int×Unit)))
 | 0,_,_,_,_=>none
 | n+1,s,v,x7,x8 =>
  bif decide (x8<x7) then((Ao s x8).bind fun v0 =>
  bif decide (v=v0) then(some (.inr (x8,()))) else
  EQ n s v x7 (IntKind.i64.wrap (x8+1))) else
  some (.inl ())
def CX (n:Nat) (w:Ai) (driver:Int) (d:AA) (_:Aj):Option ((Bool×Unit)) :=
 (Ao w.drivers driver).bind fun v0 =>
 (EQ n v0.knows d.route (↑v0.knows.length:Int) 0).bind fun v1 =>
 Sum.elim (fun v2=>some (decide (-1≥0),())) (fun v2=>some (decide (v2.fst≥0),())) (v1)
def HG (n:Nat) (y:C.Ds Ty (AH D4)):Option (YT Ty Ft):=CX n y.1 y.2.1 y.2.2.1 y.2.2.2.1
def Zcz (n:Nat):GL Ty:=FA D4 0 Ft (HG n)
def ZcI:List LB:=[]
def froster_Week_knows_i1_b:CB Tryz.f332:=lp 2 [(0,.l 3),(1,.s 3),(7,.s 3),(8,.s 3)] 0 [⟨.exit 0,[],[],[]⟩,⟨.ret,[],[(4,.s 3)],[]⟩] (u4 EQ) [] []
def Zc7 (n:Nat):Lm Ty:=[(332,[(.loop 2,(froster_Week_knows_i1_b.F n))])]
theorem Kf (n:Nat):HX Tryz.prog (Zc7 n):=⟨EU (f:=332) Tryz.func332 rfl (A0 (fn:=Tryz.f332) (L:=[(.loop 2,(froster_Week_knows_i1_b.F n))]) (ks:=[.loop 2]) ⟨froster_Week_knows_i1_b.ok n,trivial⟩ (by kernel_rfl) (by kernel_rfl)),trivial⟩
def ZcJ (n:Nat):FO Ty:=[]
theorem Lp (n:Nat) (x:C.Ds Ty (AH D4)):(CI Tryz.prog 18 (Ca Tryz.prog ((Rx ZcI n)) (Zc7 n)) (A6 (ZcJ n)) (Bz Tryz.f238) (By D4 x)).runK (GN Tryz.prog Tryz.f238.results.toList 0 Ft)=HG n x:=by kernel_rfl
theorem J5 (n:Nat):Bb Tryz.prog 238 (Zcz n):=HT Tryz.func238 rfl rfl (by decide) rfl Af Am (A5 Af Am ((Es ZcI n)) (Kf n)) (A0 (fn:=Tryz.f238) (L:=ZcJ n) (ks:=[]) trivial (by kernel_rfl) (by kernel_rfl)) (Lp n)
def DU:List (Nat×C):=[(0,.g 32),(1,.s 3),(2,.g 184),(3,.g 267)]
def FT:List Wo:=[⟨.ret,[],[],[.s 4]⟩]
def Fu:Nat→(List Int)→Int→Int→Int→Option (Unit ⊕ ((Int×Unit)))
 | 0,_,_,_,_=>none
 | n+1,s,v,x7,x8 =>
  bif decide (x8<x7) then((Ao s x8).bind fun v0 =>
  bif decide (v=v0) then(some (.inr (x8,()))) else
  Fu n s v x7 (IntKind.i64.wrap (x8+1))) else
  some (.inl ())
def D5 (n:Nat) (w:Ai) (driver:Int) (d:AA) (_:Aj):Option ((Bool×Unit)) :=
 (Ao w.drivers driver).bind fun v0 =>
 (Fu n v0.leave d.day (↑v0.leave.length:Int) 0).bind fun v1 =>
 Sum.elim (fun v2=>some (!decide (-1≥0),())) (fun v2=>some (!decide (v2.fst≥0),())) (v1)
def Ib (n:Nat) (y:C.Ds Ty (AH DU)):Option (YT Ty FT):=D5 n y.1 y.2.1 y.2.2.1 y.2.2.2.1
def Zc8 (n:Nat):GL Ty:=FA DU 0 FT (Ib n)
def ZcS:List LB:=[]
def froster_Week_here_i1_b:CB Tryz.f332:=lp 2 [(0,.l 3),(1,.s 3),(7,.s 3),(8,.s 3)] 0 [⟨.exit 0,[],[],[]⟩,⟨.ret,[],[(4,.s 3)],[]⟩] (u4 Fu) [] []
def ZcK (n:Nat):Lm Ty:=[(332,[(.loop 2,(froster_Week_here_i1_b.F n))])]
theorem KM (n:Nat):HX Tryz.prog (ZcK n):=⟨EU (f:=332) Tryz.func332 rfl (A0 (fn:=Tryz.f332) (L:=[(.loop 2,(froster_Week_here_i1_b.F n))]) (ks:=[.loop 2]) ⟨froster_Week_here_i1_b.ok n,trivial⟩ (by kernel_rfl) (by kernel_rfl)),trivial⟩
def ZcT (n:Nat):FO Ty:=[]
theorem Mn (n:Nat) (x:C.Ds Ty (AH DU)):(CI Tryz.prog 19 (Ca Tryz.prog ((Rx ZcS n)) (ZcK n)) (A6 (ZcT n)) (Bz Tryz.f239) (By DU x)).runK (GN Tryz.prog Tryz.f239.results.toList 0 FT)=Ib n x:=by kernel_rfl
theorem Kg (n:Nat):Bb Tryz.prog 239 (Zc8 n):=HT Tryz.func239 rfl rfl (by decide) rfl Af Am (A5 Af Am ((Es ZcS n)) (KM n)) (A0 (fn:=Tryz.f239) (L:=ZcT n) (ks:=[]) trivial (by kernel_rfl) (by kernel_rfl)) (Mn n)
def DV (n:Nat) (w:Ai) (_:Int) (d:AA) (s:Aj):Option ((Bool×Unit)) :=
 some (s.day != d.day,())
def ZdJ:LB:=lw Tryz.func240 [.g 32,.s 3,.g 184,.g 267] 0 (rt [.s 4]) (u4 DV) [] []
def C3 (n:Nat) (w:Ai) (_:Int) (d:AA) (s:Aj):Option ((Bool×Unit)) :=
 bif !decide (s.day=d.day) then(some (decide (IntKind.i64.wrap (IntKind.i64.wrap (IntKind.i64.wrap (d.day*1440)+d.on)-s.free)≥w.rest),())) else
 some (true,())
def ZdK:LB:=lw Tryz.func241 [.g 32,.s 3,.g 184,.g 267] 0 (rt [.s 4]) (u4 C3) [] []
def CY (n:Nat) (s:Aj) (d:AA) (end_:Int):Option ((Aj×Unit)) :=
 bif decide (s.day=d.day) then(some (Aj.mk s.free s.row (IntKind.i64.wrap (s.used+IntKind.i64.wrap (end_-d.on))) s.day,())) else
 bif s.day != IntKind.i64.wrap (d.day-1) then(some (Aj.mk (IntKind.i64.wrap (IntKind.i64.wrap (d.day*1440)+end_)) (IntKind.i64.wrap (0+1)) (IntKind.i64.wrap (s.used+IntKind.i64.wrap (end_-d.on))) d.day,())) else
 some (Aj.mk (IntKind.i64.wrap (IntKind.i64.wrap (d.day*1440)+end_)) (IntKind.i64.wrap (s.row+1)) (IntKind.i64.wrap (s.used+IntKind.i64.wrap (end_-d.on))) d.day,())
def ZcL:LB:=lw Tryz.func178 [.g 267,.g 184,.s 3] 0 (rt [.g 267]) (u3 CY) [] []
def CZ (n:Nat) (w:Ai) (_:Int) (d:AA) (s:Aj):Option ((Bool×Unit)) :=
 bif !decide (s.day=d.day) then((CY n s d d.on).bind fun v0 =>
 some (decide (v0.fst.row≤w.run),())) else
 some (true,())
def ZdZ:LB:=lw Tryz.func242 [.g 32,.s 3,.g 184,.g 267] 0 (rt [.s 4]) (u4 CZ) [ZcL] []
def B2:List (Nat×C):=[(3,.u 32),(5,.p 0 [.l 3]),(6,.p 0 [.o 280]),(7,.a 267),(9,.s 3),(10,.u 184),(11,.s 3),(33,.o 278),(34,.s 3),(35,.s 3)]
def DE:List Wo:=[⟨.exit 4,[.u 32,.p 0 [.l 3],.p 0 [.o 280],.a 267,.u 184],[(5,.q 1),(7,.q 3),(9,.s 3),(10,.q 4),(11,.s 3)],[]⟩]
def B3:List (Nat×C):=[(0,.y 0 121 [3,4,5,6,7] [.u 32,.p 0 [.l 3],.p 0 [.l 3],.p 0 [.o 280],.a 267]),(2,.p 0 [.s 3]),(7,.l 184),(8,.s 3),(9,.s 3)]
def DF:List Wo:=[⟨.exit 0,[.y 0 121 [3,4,5,6,7] [.u 32,.p 0 [.l 3],.p 0 [.l 3],.p 0 [.o 280],.a 267],.q 1,.q 2,.q 3,.q 4,.q 5,.p 0 [.s 3]],[],[]⟩,⟨.ret,[.y 0 121 [3,4,5,6,7] [.u 32,.p 0 [.l 3],.p 0 [.l 3],.p 0 [.o 280],.a 267],.q 1,.q 2,.q 3,.q 4,.q 5,.p 0 [.s 3]],[],[]⟩]
def Ac:Nat→Ai→(List Int)→(List Ah)→(List Aj)→Int→AA→Int→(List AN)→Int→Int→Option ((Ai×(List Int×Unit)×(List Ah×Unit)×List Aj×AA×Unit×Unit×Int×Unit×Int×Unit))
 | 0,_,_,_,_,_,_,_,_,_,_=>none
 | n+1,w,truth,out,now,i,d,k,x33,x34,x35 =>
  bif decide (x35<x34) then((Ao x33 x35).bind fun v0 =>
  (x33.get?Internal x35.toNat).bind fun v1 =>
  bif now.length.beq 6 then((Ao now k).bind fun v2 =>
  (now.get?Internal k.toNat).bind fun v3 =>
  bif decide (v1.holds.f=(↑238:Int)) then((CX n w k d v3).bind fun v4 =>
  bif !v4.fst then((app out [Ah.mk v1.kind k i]).bind fun v5 =>
  Ac n w truth v5 now i d k x33 x34 (IntKind.i64.wrap (x35+1))) else
  Ac n w truth out now i d k x33 x34 (IntKind.i64.wrap (x35+1))) else
  bif decide (v1.holds.f=(↑239:Int)) then((D5 n w k d v3).bind fun v4 =>
  bif !v4.fst then((app out [Ah.mk v1.kind k i]).bind fun v5 =>
  Ac n w truth v5 now i d k x33 x34 (IntKind.i64.wrap (x35+1))) else
  Ac n w truth out now i d k x33 x34 (IntKind.i64.wrap (x35+1))) else
  bif decide (v1.holds.f=(↑240:Int)) then((DV n w k d v3).bind fun v4 =>
  bif !v4.fst then((app out [Ah.mk v1.kind k i]).bind fun v5 =>
  Ac n w truth v5 now i d k x33 x34 (IntKind.i64.wrap (x35+1))) else
  Ac n w truth out now i d k x33 x34 (IntKind.i64.wrap (x35+1))) else
  bif decide (v1.holds.f=(↑241:Int)) then((C3 n w k d v3).bind fun v4 =>
  bif !v4.fst then((app out [Ah.mk v1.kind k i]).bind fun v5 =>
  Ac n w truth v5 now i d k x33 x34 (IntKind.i64.wrap (x35+1))) else
  Ac n w truth out now i d k x33 x34 (IntKind.i64.wrap (x35+1))) else
  bif decide (v1.holds.f=(↑242:Int)) then((CZ n w k d v3).bind fun v4 =>
  bif !v4.fst then((app out [Ah.mk v1.kind k i]).bind fun v5 =>
  Ac n w truth v5 now i d k x33 x34 (IntKind.i64.wrap (x35+1))) else
  Ac n w truth out now i d k x33 x34 (IntKind.i64.wrap (x35+1))) else
  none) else
  none) else
  some (w,((truth,()),((out,()),(now,(d,((),((),(i,((),(k,()))))))))))
def Cd (n:Nat) (y:C.Ds Ty (AH B2)):Option (YT Ty DE):=Ac n y.1 y.2.1.1 y.2.2.1.1 y.2.2.2.1 y.2.2.2.2.1 y.2.2.2.2.2.1 y.2.2.2.2.2.2.1 y.2.2.2.2.2.2.2.1 y.2.2.2.2.2.2.2.2.1 y.2.2.2.2.2.2.2.2.2.1
def Zcd (n:Nat):St Ty→Tr (Lf Ty):=MU B2 5 DE (Cd n)
def AV:Nat→Ai→(List Int)→(List Int)→(List Ah)→(List Aj)→Int→(List AA)→Int→Int→Option (((Ai×(List Int×Unit)×(List Int×Unit)×(List Ah×Unit)×List Aj×Unit)×Unit×Unit×Unit×Unit×Unit×(Int×Unit)×Unit) ⊕ (((Ai×(List Int×Unit)×(List Int×Unit)×(List Ah×Unit)×List Aj×Unit)×Unit×Unit×Unit×Unit×Unit×(Int×Unit)×Unit)))
 | 0,_,_,_,_,_,_,_,_,_=>none
 | n+1,yield1,yield2,yield3,yield4,yield5,x2,x7,x8,x9 =>
  bif decide (x9<x8) then((Ao x7 x9).bind fun v0 =>
  bif decide (v0.day=x2) then((Ao yield2 x9).bind fun v1 =>
  bif decide (v1=-1) then(AV n yield1 yield2 yield3 yield4 yield5 x2 x7 x8 (IntKind.i64.wrap (x9+1))) else
  (Ac n yield1 yield3 yield4 yield5 x9 v0 v1 [AN.mk (IK.mk 0) (Fp.mk (↑238:Int)),AN.mk (IK.mk 1) (Fp.mk (↑239:Int)),AN.mk (IK.mk 2) (Fp.mk (↑240:Int)),AN.mk (IK.mk 3) (Fp.mk (↑241:Int)),AN.mk (IK.mk 4) (Fp.mk (↑242:Int))] (↑[AN.mk (IK.mk 0) (Fp.mk (↑238:Int)),AN.mk (IK.mk 1) (Fp.mk (↑239:Int)),AN.mk (IK.mk 2) (Fp.mk (↑240:Int)),AN.mk (IK.mk 3) (Fp.mk (↑241:Int)),AN.mk (IK.mk 4) (Fp.mk (↑242:Int))].length:Int) 0).bind fun v2 =>
  bif v2.snd.snd.snd.fst.length.beq 6 then((Ao v2.snd.snd.snd.fst v2.snd.snd.snd.snd.snd.snd.snd.snd.snd.fst).bind fun v3 =>
  (v2.snd.snd.snd.fst.get?Internal v2.snd.snd.snd.snd.snd.snd.snd.snd.snd.fst.toNat).bind fun v4 =>
  (Ao v2.snd.fst.fst v2.snd.snd.snd.snd.snd.snd.snd.fst).bind fun v5 =>
  (CY n v4 v2.snd.snd.snd.snd.fst v5).bind fun v6 =>
  bif v2.snd.snd.snd.fst.length.beq 6 then((Ao v2.snd.snd.snd.fst v2.snd.snd.snd.snd.snd.snd.snd.snd.snd.fst).bind fun v7 =>
  (v2.snd.snd.snd.fst.get?Internal v2.snd.snd.snd.snd.snd.snd.snd.snd.snd.fst.toNat).bind fun v8 =>
  AV n v2.fst yield2 v2.snd.fst.fst v2.snd.snd.fst.fst (v2.snd.snd.snd.fst.set v2.snd.snd.snd.snd.snd.snd.snd.snd.snd.fst.toNat v6.fst) x2 x7 x8 (IntKind.i64.wrap (x9+1))) else
  none) else
  none) else
  AV n yield1 yield2 yield3 yield4 yield5 x2 x7 x8 (IntKind.i64.wrap (x9+1))) else
  some (.inl ((yield1,((yield2,()),((yield3,()),((yield4,()),(yield5,()))))),((),((),((),((),((),((x2,()),()))))))))
def Ce (n:Nat) (y:C.Ds Ty (AH B3)):Option (YT Ty DF):=AV n y.1.1 y.1.2.1.1 y.1.2.2.1.1 y.1.2.2.2.1.1 y.1.2.2.2.2.1 y.2.1.1 y.2.2.1 y.2.2.2.1 y.2.2.2.2.1
def ZbM (n:Nat):St Ty→Tr (Lf Ty):=MU B3 7 DF (Ce n)
def AW:Nat→Ai→(List Int)→(List Int)→(List Ah)→(List Aj)→Int→Int→Option ((Ai×(List Int×Unit)×(List Int×Unit)×(List Ah×Unit)×List Aj×Unit×Unit×Unit×Unit))
 | 0,_,_,_,_,_,_,_=>none
 | n+1,w,roster,truth,out,now,x18,x19 =>
  bif decide (x19<x18) then((AV n w roster truth out now x19 w.duties (↑w.duties.length:Int) 0).bind fun v0 =>
  Sum.elim (fun v1=>AW n v1.fst.fst v1.fst.snd.fst.fst v1.fst.snd.snd.fst.fst v1.fst.snd.snd.snd.fst.fst v1.fst.snd.snd.snd.snd.fst x18 (IntKind.i64.wrap (x19+1))) (fun v1=>AW n v1.fst.fst v1.fst.snd.fst.fst v1.fst.snd.snd.fst.fst v1.fst.snd.snd.snd.fst.fst v1.fst.snd.snd.snd.snd.fst x18 (IntKind.i64.wrap (x19+1))) (v0)) else
  some (w,((roster,()),((truth,()),((out,()),(now,((),((),((),()))))))))
def AX:Nat→Ai→(List Ah)→(List Aj)→Int→Int→Option ((Ai×(List Ah×Unit)×List Aj×Unit×Unit))
 | 0,_,_,_,_,_=>none
 | n+1,w,out,now,x72,x73 =>
  bif decide (x73<x72) then(bif now.length.beq 6 then((Ao now x73).bind fun v0 =>
  (now.get?Internal x73.toNat).bind fun v1 =>
  bif decide (v1.used>w.hours) then((app out [Ah.mk (IK.mk 5) x73 0]).bind fun v2 =>
  AX n w v2 now x72 (IntKind.i64.wrap (x73+1))) else
  AX n w out now x72 (IntKind.i64.wrap (x73+1))) else
  none) else
  some (w,((out,()),(now,((),()))))
def DW (n:Nat) (w:Ai) (roster:List Int) (truth:List Int):Option ((List Ah×Unit)) :=
 (DT n w).bind fun v0 =>
 bif [Aj.mk 0 0 0 0,Aj.mk 0 0 0 0,Aj.mk 0 0 0 0,Aj.mk 0 0 0 0,Aj.mk 0 0 0 0,Aj.mk 0 0 0 0].length.beq 6 && v0.fst.length.beq 6 then((AW n w roster truth [] v0.fst w.days 0).bind fun v1 =>
 (AX n v1.fst v1.snd.snd.snd.fst.fst v1.snd.snd.snd.snd.fst (↑v1.fst.drivers.length:Int) 0).bind fun v2 =>
 (Ww v2.snd.fst.fst).bind fun v3 =>
 some (v3,())) else
 none
def Zea:LB:=⟨238,Zcz,J5⟩
def Zen:LB:=⟨239,Zc8,Kg⟩
def Zhi:LB:=⟨179,Zgs,Aah⟩
def ZbF:List LB:=[ZdI,Zea,Zen,ZdJ,ZdK,ZdZ,ZcL,Zhi]
def Zck (n:Nat):FO Ty:=[]
theorem IX (n:Nat) (x:C.Ds Ty (AH B2)):(CI Tryz.prog 92 (AiT (Ca Tryz.prog ((Rx ZbF n)) [])) (A6 (Zck n)) (Cv 11 Tryz.f121) (By B2 x)).runK (Gn 5 B2 DE (Cd n))=Cd (n+1) x:=by kernel_rfl
theorem IY (n:Nat):B7 false Tryz.prog 92 (Zcd n) (.loop (Cv 11 Tryz.f121)):=H1 fun x y hy=>Fk (Fn:=Cd) Af Am (fun n=>Abx (A5 Af Am ((Es ZbF n)) EO)) (fun _ _=>TA) (fun _=>by kernel_rfl) (fun n=>(A0 (fn:=Tryz.f121) (L:=Zck n) (ks:=[]) trivial (by kernel_rfl) (by kernel_rfl))) (by decide) (fun _=>rfl) IX hy
def Zc9 (n:Nat):FO Ty:=[(.loop 11,Zcd n)]
def ZbY (n:Nat):List (Nat×GL Ty):=(Ar,AjK Tryz.prog (Ca Tryz.prog ((Rx ZbF n)) []) (A6 []) (A6 (Zc9 n)) 121)::(Rx ZbF n)
theorem Gx (n:Nat):K7 Tryz.prog (ZbY n):=⟨Ab5 Af Am (A5 Af Am ((Es ZbF n)) EO) (fun _ _ _ h=>by cases h) (A0 (fn:=Tryz.f121) (c:=(RFs.rf 121).body) (N:=(RFs.rf 121).n) (L:=Zc9 n) (ks:=[.loop 11]) ⟨IY n,trivial⟩ (by kernel_rfl) (by kernel_rfl)),Es ZbF n⟩
def Zcl (n:Nat):FO Ty:=[]
theorem IZ (n:Nat) (x:C.Ds Ty (AH B3)):(CI Tryz.prog 26 (Ca Tryz.prog (ZbY n) []) (A6 (Zcl n)) (Cv 1 Tryz.f237) (By B3 x)).runK (Gn 7 B3 DF (Ce n))=Ce (n+1) x:=by kernel_rfl
theorem Ja (n:Nat):B7 true Tryz.prog 26 (ZbM n) (.loop (Cv 1 Tryz.f237)):=H1 fun x y hy=>Fk (Fn:=Ce) Af Am (fun n=>A5 Af Am (Gx n) EO) (fun h=>by cases h) (fun h=>by cases h) (fun n=>(A0 (fn:=Tryz.f237) (L:=Zcl n) (ks:=[]) trivial (by kernel_rfl) (by kernel_rfl))) (by decide) (fun _=>rfl) IZ hy
def ZcA (n:Nat):Lm Ty:=[(237,[(.loop 1,ZbM n)])]
theorem Kh (n:Nat):HX Tryz.prog (ZcA n):=⟨EU (f:=237) Tryz.func237 rfl (A0 (fn:=Tryz.f237) (L:=[(.loop 1,ZbM n)]) (ks:=[.loop 1]) ⟨Ja n,trivial⟩ (by kernel_rfl) (by kernel_rfl)),trivial⟩
def Zc0 (n:Nat):St Ty→Tr (Lf Ty):=Ajo Tryz.prog (Ca Tryz.prog (ZbY n) (ZcA n)) (.tmp 24) 121 [3,4,5,6,7]
theorem J6 (n:Nat):B7 true Tryz.prog 92 (Zc0 n) (Fm (.rf 8) Tryz.f121):=Ab8 (A5 Af Am (Gx n) (Kh n)) (by kernel_rfl) (by kernel_rfl)
def Zdw:CB Tryz.f121:=lp 3 [(3,.u 32),(4,.p 0 [.l 3]),(5,.p 0 [.l 3]),(6,.p 0 [.o 280]),(7,.a 267),(18,.s 3),(19,.s 3)] 5 [⟨.exit 0,[.u 32,.p 0 [.l 3],.p 0 [.l 3],.p 0 [.o 280],.a 267],[(3,.q 0),(6,.q 3),(7,.q 4)],[]⟩] (fun n y=>AW n y.1 y.2.1.1 y.2.2.1.1 y.2.2.2.1.1 y.2.2.2.2.1 y.2.2.2.2.2.1 y.2.2.2.2.2.2.1) ZbF [⟨.rf 8,fun n=>Zc0 n,fun n=>J6 n⟩]
def Zdx:CB Tryz.f121:=lp 19 [(3,.u 32),(6,.p 0 [.o 280]),(7,.a 267),(72,.s 3),(73,.s 3)] 3 [⟨.exit 6,[.u 32,.p 0 [.o 280],.a 267],[(6,.q 1)],[]⟩] (fun n y=>AX n y.1 y.2.1.1 y.2.2.1 y.2.2.2.1 y.2.2.2.2.1) ZbF []
def ZdL:LB:=lw Tryz.func121 [.g 32,.l 3,.l 3] 0 (rt [.o 280]) (u3 DW) ZbF [Zdw,Zdx]
def E2 (n:Nat) (w:Ai) (roster:List Int):Option ((Bool×Unit)) :=
 (Fa n w).bind fun v0 =>
 (DW n w roster v0.fst).bind fun v1 =>
 some (decide ((↑v1.fst.length:Int)=0),())
def Zeb:LB:=(lw Tryz.func73 [.g 32,.l 3] 0 (rt [.s 4]) (u2 E2) [Zem,ZdL] []).rd
def Cq:Nat→Int→(List Int)→Int→Int→Option ((Int×Unit))
 | 0,_,_,_,_=>none
 | n+1,n_,x5,x6,x7 =>
  bif decide (x7<x6) then((Ao x5 x7).bind fun v0 =>
  bif v0 != -1 then(Cq n (IntKind.i64.wrap (n_+1)) x5 x6 (IntKind.i64.wrap (x7+1))) else
  Cq n n_ x5 x6 (IntKind.i64.wrap (x7+1))) else
  some (n_,())
def GQ (n:Nat) (roster:List Int):Option ((Int×Unit)) :=
 (Cq n 0 roster (↑roster.length:Int) 0).bind fun v0 =>
 some (v0.fst,())
def Zeo:CB Tryz.f74:=lp 2 [(2,.s 3),(5,.l 3),(6,.s 3),(7,.s 3)] 0 [⟨.exit 0,[],[(2,.s 3)],[]⟩] (u4 Cq) [] []
def Zfv:LB:=(lw Tryz.func74 [.l 3] 0 (rt [.s 3]) (u1 GQ) [] [Zeo]).rd
def C4 (n:Nat) (w:Ai) (roster:List Int) (least:Int):Option ((Bool×Unit)) :=
 (Cp n w).bind fun v0 =>
 bif decide (v0.fst=0) then((DS n w roster).bind fun v1 =>
 bif v1.fst then((E2 n w roster).bind fun v2 =>
 bif v2.fst then((GQ n roster).bind fun v3 =>
 some (decide (v3.fst≥least),())) else
 some (false,())) else
 some (false,())) else
 some (false,())
def ZdM:LB:=⟨72,Zcq,IW⟩
def ZdN:LB:=(lw Tryz.func33 [.g 32,.l 3,.s 3] 0 (rt [.s 4]) (u3 C4) [Zce,ZdM,Zeb,Zfv] []).rd
def Cl (n:Nat) (g:Ab) (n_:List Int):Option ((Ab×Unit) ⊕ ((Ab×Az×Unit))) :=
 bif n_.length.beq 5 then((Ao n_ 0).bind fun v0 =>
 (n_.get?Internal (Int.toNat 0)).bind fun v1 =>
 (B1 n v1 0 (IntKind.i64.wrap ((↑g.state.roster.length:Int)-1))).bind fun v2 =>
 bif v2.fst then(bif n_.length.beq 5 then((Ao n_ 1).bind fun v3 =>
 (n_.get?Internal (Int.toNat 1)).bind fun v4 =>
 (B1 n v4 (-1) (IntKind.i64.wrap ((↑g.state.week.drivers.length:Int)-1))).bind fun v5 =>
 (Au n v5.fst 2).bind fun v6 =>
 Sum.elim (fun v7=>(NT n g.state.roster).bind fun v8 =>
 bif n_.length.beq 5 then((Ao n_ 0).bind fun v9 =>
 (n_.get?Internal (Int.toNat 0)).bind fun v10 =>
 bif n_.length.beq 5 then((Ao n_ 1).bind fun v11 =>
 (n_.get?Internal (Int.toNat 1)).bind fun v12 =>
 (Ao v8.fst v10).bind fun v13 =>
 (v8.fst.get?Internal v10.toNat).bind fun v14 =>
 (C4 n g.state.week (v8.fst.set v10.toNat v12) 0).bind fun v15 =>
 (Au n v15.fst 10).bind fun v16 =>
 Sum.elim (fun v17=>some (.inl (Ab.mk (Ae.mk g.state.cards g.state.outs g.state.runs g.state.records g.state.week (v8.fst.set v10.toNat v12)),()))) (fun v17=>some (.inr (g,(v17.fst,())))) (v16)) else
 none) else
 none) (fun v7=>some (.inr (g,(v7.fst,())))) (v6)) else
 none) else
 (Au n false 2).bind fun v3 =>
 Sum.elim (fun v4=>(NT n g.state.roster).bind fun v5 =>
 bif n_.length.beq 5 then((Ao n_ 0).bind fun v6 =>
 (n_.get?Internal (Int.toNat 0)).bind fun v7 =>
 bif n_.length.beq 5 then((Ao n_ 1).bind fun v8 =>
 (n_.get?Internal (Int.toNat 1)).bind fun v9 =>
 (Ao v5.fst v7).bind fun v10 =>
 (v5.fst.get?Internal v7.toNat).bind fun v11 =>
 (C4 n g.state.week (v5.fst.set v7.toNat v9) 0).bind fun v12 =>
 (Au n v12.fst 10).bind fun v13 =>
 Sum.elim (fun v14=>some (.inl (Ab.mk (Ae.mk g.state.cards g.state.outs g.state.runs g.state.records g.state.week (v5.fst.set v7.toNat v9)),()))) (fun v14=>some (.inr (g,(v14.fst,())))) (v13)) else
 none) else
 none) (fun v4=>some (.inr (g,(v4.fst,())))) (v3)) else
 none
def fgarage_session_give_b:LB:=lw Tryz.func200 [.u 114,.v 3] 1 [⟨.ret,[.u 114],[],[]⟩,⟨.pan,[.u 114],[],[.i 234 (.g 234)]⟩] (u2 Cl) [Zcc,fgarage_ask_b,Zg8,ZdN] []
def AgE (n:Nat):Option (((List (ByteArray×DL))×Unit)) :=
 some (FY Di (FY Di (FY Di (FY Di (FY Di (FY Di (FY Di (FY Di (FY Di (FY Di (FY Di (FY Di [] (B [102,111,117,110,100]) (DL.mk 4 (Fp.mk (↑189:Int)))) (B [104,101,108,100]) (DL.mk 4 (Fp.mk (↑190:Int)))) (B [115,105,103,110,101,100]) (DL.mk 4 (Fp.mk (↑191:Int)))) (B [99,104,101,99,107,101,100]) (DL.mk 3 (Fp.mk (↑192:Int)))) (B [111,117,116]) (DL.mk 2 (Fp.mk (↑193:Int)))) (B [105,110]) (DL.mk 3 (Fp.mk (↑194:Int)))) (B [115,97,108,101]) (DL.mk 5 (Fp.mk (↑195:Int)))) (B [115,121,110,99]) (DL.mk 4 (Fp.mk (↑196:Int)))) (B [99,108,111,115,101]) (DL.mk 5 (Fp.mk (↑197:Int)))) (B [100,114,105,118,101,114]) (DL.mk 2 (Fp.mk (↑198:Int)))) (B [100,117,116,121]) (DL.mk 5 (Fp.mk (↑199:Int)))) (B [103,105,118,101]) (DL.mk 2 (Fp.mk (↑200:Int))),())
def words_b:LB:=lw Tryz.func138 [] 0 (rt [.m 9 237]) (fun n _=>AgE n) [fgarage_session_found_b,fgarage_session_held_b,fgarage_session_signed_b,fgarage_session_checked_b,fgarage_session_out_b,fgarage_session_in_b,fgarage_session_sale_b,fgarage_session_sync_b,fgarage_session_close_b,fgarage_session_driver_b,fgarage_session_duty_b,fgarage_session_give_b] []
def GR (n:Nat) (s:ByteArray):Option ((Int×Unit) ⊕ ((Az×Unit))) :=
 (Nk s).bind fun v0 =>
 Sum.elim (fun v1=>(BV n v1).bind fun v2 =>
 bif v2.fst.beq s then((B1 n v1 (-999999999) 999999999).bind fun v3 =>
 (Au n v3.fst 4).bind fun v4 =>
 Sum.elim (fun v5=>some (.inl (v1,()))) (fun v5=>some (.inr (v5.fst,()))) (v4)) else
 (Au n false 4).bind fun v3 =>
 Sum.elim (fun v4=>some (.inl (v1,()))) (fun v4=>some (.inr (v4.fst,()))) (v3)) (fun v1=>(Au n false 4).bind fun v2 =>
 Sum.elim (fun v3=>some (.inl (v1,()))) (fun v3=>some (.inr (v3.fst,()))) (v2)) (v0)
def ZgP:LB:=⟨113,Zev,Aaa⟩
def ZfY:LB:=⟨89,Zgt,ZZ⟩
def fgarage_number_b:LB:=lw Tryz.func140 [.s 9] 0 [⟨.ret,[],[],[.s 3]⟩,⟨.pan,[],[],[.i 234 (.g 234)]⟩] (u1 GR) [ZgP,ZfY,Zcc,fgarage_ask_b] []
def Nn:Nat→Code→Code
 | n+1,.seq _ b=>Nn n b
 | _,c=>c
def IQ:List (Nat×C):=[(0,.u 114),(4,.p 0 [.s 3]),(6,.u 237),(8,.a 3),(33,.l 9),(34,.s 3),(35,.s 3)]
def NV:List Wo:=[⟨.exit 0,[.u 114,.p 0 [.s 3],.u 237,.a 3],[(0,.q 0),(4,.q 1),(6,.q 2),(8,.q 3)],[]⟩,⟨.pan,[.u 114,.p 0 [.s 3],.u 237,.a 3],[(4,.q 1)],[.i 234 (.g 234)]⟩]
def Jq:List (Nat×C):=[(0,.u 114),(1,.s 9),(4,.p 0 [.s 37])]
def KN:List Wo:=[⟨.ret,[.u 114,.p 0 [.s 37]],[(4,.q 1)],[]⟩,⟨.pan,[.u 114,.p 0 [.s 37]],[(4,.q 1)],[.i 234 (.g 234)]⟩]
def IS:Nat→Ab→Int→DL→(List Int)→(List ByteArray)→Int→Int→Option ((Ab×(Int×Unit)×DL×List Int×Unit×Unit×Unit×Unit×Unit) ⊕ ((Ab×(Int×Unit)×DL×List Int×Unit×Az×Unit)))
 | 0,_,_,_,_,_,_,_=>none
 | n+1,g,e,x,n_,x33,x34,x35 =>
  bif decide (x35<x34) then((Ao x33 x35).bind fun v0 =>
  (GR n v0).bind fun v1 =>
  Sum.elim (fun v2=>bif n_.length.beq 5 then((Ao n_ x35).bind fun v3 =>
  (n_.get?Internal x35.toNat).bind fun v4 =>
  IS n g e x (n_.set x35.toNat v2.fst) x33 x34 (IntKind.i64.wrap (x35+1))) else
  none) (fun v2=>some (.inr (g,((e,()),(x,(n_,((),(v2.fst,())))))))) (v1)) else
  some (.inl (g,((e,()),(x,(n_,((),((),((),((),())))))))))
def KO (n:Nat) (y:C.Ds Ty (AH IQ)):Option (YT Ty NV):=IS n y.1 y.2.1.1 y.2.2.1 y.2.2.2.1 y.2.2.2.2.1 y.2.2.2.2.2.1 y.2.2.2.2.2.2.1
def Ze9 (n:Nat):St Ty→Tr (Lf Ty):=MU IQ 4 NV (KO n)
def Aan (n:Nat) (g:Ab) (text:ByteArray) (e:Int):Option ((Ab×(Int×Unit)×Unit×Unit) ⊕ ((Ab×(Int×Unit)×Unit×Az×Unit))) :=
 (Q6 n text (B [32])).bind fun v0 =>
 (AgE n).bind fun v1 =>
 (Ao v0.fst 0).bind fun v2 =>
 bif Ct Di v1.fst v2 then((Au n (decide ((↑v0.fst.length:Int)=IntKind.i64.wrap ((AG Di v1.fst v2 (DL.mk 0 (Fp.mk (-1)))).many+1))) 4).bind fun v3 =>
 Sum.elim (fun v4=>(Gl v0.fst 1 (↑v0.fst.length:Int)).bind fun v5 =>
 (IS n g e (AG Di v1.fst v2 (DL.mk 0 (Fp.mk (-1)))) [0,0,0,0,0] v5 (↑v5.length:Int) 0).bind fun v6 =>
 Sum.elim (fun v7=>bif v7.snd.snd.snd.fst.length.beq 5 then(bif decide (v7.snd.snd.fst.do_.f=(↑189:Int)) then((De n v7.fst v7.snd.snd.snd.fst).bind fun v8 =>
 Sum.elim (fun v9=>some (.inl (v9.fst,((0,()),((),()))))) (fun v9=>some (.inr (v9.fst,((v7.snd.fst.fst,()),((),(v9.snd.fst,())))))) (v8)) else
 bif decide (v7.snd.snd.fst.do_.f=(↑190:Int)) then((Dy n v7.fst v7.snd.snd.snd.fst).bind fun v8 =>
 Sum.elim (fun v9=>some (.inl (v9.fst,((0,()),((),()))))) (fun v9=>some (.inr (v9.fst,((v7.snd.fst.fst,()),((),(v9.snd.fst,())))))) (v8)) else
 bif decide (v7.snd.snd.fst.do_.f=(↑191:Int)) then((CA n v7.fst v7.snd.snd.snd.fst).bind fun v8 =>
 Sum.elim (fun v9=>some (.inl (v9.fst,((0,()),((),()))))) (fun v9=>some (.inr (v9.fst,((v7.snd.fst.fst,()),((),(v9.snd.fst,())))))) (v8)) else
 bif decide (v7.snd.snd.fst.do_.f=(↑192:Int)) then((Cn n v7.fst v7.snd.snd.snd.fst).bind fun v8 =>
 Sum.elim (fun v9=>some (.inl (v9.fst,((0,()),((),()))))) (fun v9=>some (.inr (v9.fst,((v7.snd.fst.fst,()),((),(v9.snd.fst,())))))) (v8)) else
 bif decide (v7.snd.snd.fst.do_.f=(↑193:Int)) then((Cy n v7.fst v7.snd.snd.snd.fst).bind fun v8 =>
 Sum.elim (fun v9=>some (.inl (v9.fst,((0,()),((),()))))) (fun v9=>some (.inr (v9.fst,((v7.snd.fst.fst,()),((),(v9.snd.fst,())))))) (v8)) else
 bif decide (v7.snd.snd.fst.do_.f=(↑194:Int)) then((CW n v7.fst v7.snd.snd.snd.fst).bind fun v8 =>
 Sum.elim (fun v9=>some (.inl (v9.fst,((0,()),((),()))))) (fun v9=>some (.inr (v9.fst,((v7.snd.fst.fst,()),((),(v9.snd.fst,())))))) (v8)) else
 bif decide (v7.snd.snd.fst.do_.f=(↑195:Int)) then((D0 n v7.fst v7.snd.snd.snd.fst).bind fun v8 =>
 Sum.elim (fun v9=>some (.inl (v9.fst,((0,()),((),()))))) (fun v9=>some (.inr (v9.fst,((v7.snd.fst.fst,()),((),(v9.snd.fst,())))))) (v8)) else
 bif decide (v7.snd.snd.fst.do_.f=(↑196:Int)) then((D1 n v7.fst v7.snd.snd.snd.fst).bind fun v8 =>
 Sum.elim (fun v9=>some (.inl (v9.fst,((0,()),((),()))))) (fun v9=>some (.inr (v9.fst,((v7.snd.fst.fst,()),((),(v9.snd.fst,())))))) (v8)) else
 bif decide (v7.snd.snd.fst.do_.f=(↑197:Int)) then((Df n v7.fst v7.snd.snd.snd.fst).bind fun v8 =>
 Sum.elim (fun v9=>some (.inl (v9.fst,((0,()),((),()))))) (fun v9=>some (.inr (v9.fst,((v7.snd.fst.fst,()),((),(v9.snd.fst,())))))) (v8)) else
 bif decide (v7.snd.snd.fst.do_.f=(↑198:Int)) then((BK n v7.fst v7.snd.snd.snd.fst).bind fun v8 =>
 Sum.elim (fun v9=>some (.inl (v9.fst,((0,()),((),()))))) (fun v9=>some (.inr (v9.fst,((v7.snd.fst.fst,()),((),(v9.snd.fst,())))))) (v8)) else
 bif decide (v7.snd.snd.fst.do_.f=(↑199:Int)) then((Cj n v7.fst v7.snd.snd.snd.fst).bind fun v8 =>
 Sum.elim (fun v9=>some (.inl (v9.fst,((0,()),((),()))))) (fun v9=>some (.inr (v9.fst,((v7.snd.fst.fst,()),((),(v9.snd.fst,())))))) (v8)) else
 bif decide (v7.snd.snd.fst.do_.f=(↑200:Int)) then((Cl n v7.fst v7.snd.snd.snd.fst).bind fun v8 =>
 Sum.elim (fun v9=>some (.inl (v9.fst,((0,()),((),()))))) (fun v9=>some (.inr (v9.fst,((v7.snd.fst.fst,()),((),(v9.snd.fst,())))))) (v8)) else
 none) else
 none) (fun v7=>some (.inr (v7.fst,((v7.snd.fst.fst,()),((),(v7.snd.snd.snd.snd.snd.fst,())))))) (v6)) (fun v4=>some (.inr (g,((e,()),((),(v4.fst,())))))) (v3)) else
 (Au n false 4).bind fun v3 =>
 Sum.elim (fun v4=>(Gl v0.fst 1 (↑v0.fst.length:Int)).bind fun v5 =>
 (IS n g e (AG Di v1.fst v2 (DL.mk 0 (Fp.mk (-1)))) [0,0,0,0,0] v5 (↑v5.length:Int) 0).bind fun v6 =>
 Sum.elim (fun v7=>bif v7.snd.snd.snd.fst.length.beq 5 then(bif decide (v7.snd.snd.fst.do_.f=(↑189:Int)) then((De n v7.fst v7.snd.snd.snd.fst).bind fun v8 =>
 Sum.elim (fun v9=>some (.inl (v9.fst,((0,()),((),()))))) (fun v9=>some (.inr (v9.fst,((v7.snd.fst.fst,()),((),(v9.snd.fst,())))))) (v8)) else
 bif decide (v7.snd.snd.fst.do_.f=(↑190:Int)) then((Dy n v7.fst v7.snd.snd.snd.fst).bind fun v8 =>
 Sum.elim (fun v9=>some (.inl (v9.fst,((0,()),((),()))))) (fun v9=>some (.inr (v9.fst,((v7.snd.fst.fst,()),((),(v9.snd.fst,())))))) (v8)) else
 bif decide (v7.snd.snd.fst.do_.f=(↑191:Int)) then((CA n v7.fst v7.snd.snd.snd.fst).bind fun v8 =>
 Sum.elim (fun v9=>some (.inl (v9.fst,((0,()),((),()))))) (fun v9=>some (.inr (v9.fst,((v7.snd.fst.fst,()),((),(v9.snd.fst,())))))) (v8)) else
 bif decide (v7.snd.snd.fst.do_.f=(↑192:Int)) then((Cn n v7.fst v7.snd.snd.snd.fst).bind fun v8 =>
 Sum.elim (fun v9=>some (.inl (v9.fst,((0,()),((),()))))) (fun v9=>some (.inr (v9.fst,((v7.snd.fst.fst,()),((),(v9.snd.fst,())))))) (v8)) else
 bif decide (v7.snd.snd.fst.do_.f=(↑193:Int)) then((Cy n v7.fst v7.snd.snd.snd.fst).bind fun v8 =>
 Sum.elim (fun v9=>some (.inl (v9.fst,((0,()),((),()))))) (fun v9=>some (.inr (v9.fst,((v7.snd.fst.fst,()),((),(v9.snd.fst,())))))) (v8)) else
 bif decide (v7.snd.snd.fst.do_.f=(↑194:Int)) then((CW n v7.fst v7.snd.snd.snd.fst).bind fun v8 =>
 Sum.elim (fun v9=>some (.inl (v9.fst,((0,()),((),()))))) (fun v9=>some (.inr (v9.fst,((v7.snd.fst.fst,()),((),(v9.snd.fst,())))))) (v8)) else
 bif decide (v7.snd.snd.fst.do_.f=(↑195:Int)) then((D0 n v7.fst v7.snd.snd.snd.fst).bind fun v8 =>
 Sum.elim (fun v9=>some (.inl (v9.fst,((0,()),((),()))))) (fun v9=>some (.inr (v9.fst,((v7.snd.fst.fst,()),((),(v9.snd.fst,())))))) (v8)) else
 bif decide (v7.snd.snd.fst.do_.f=(↑196:Int)) then((D1 n v7.fst v7.snd.snd.snd.fst).bind fun v8 =>
 Sum.elim (fun v9=>some (.inl (v9.fst,((0,()),((),()))))) (fun v9=>some (.inr (v9.fst,((v7.snd.fst.fst,()),((),(v9.snd.fst,())))))) (v8)) else
 bif decide (v7.snd.snd.fst.do_.f=(↑197:Int)) then((Df n v7.fst v7.snd.snd.snd.fst).bind fun v8 =>
 Sum.elim (fun v9=>some (.inl (v9.fst,((0,()),((),()))))) (fun v9=>some (.inr (v9.fst,((v7.snd.fst.fst,()),((),(v9.snd.fst,())))))) (v8)) else
 bif decide (v7.snd.snd.fst.do_.f=(↑198:Int)) then((BK n v7.fst v7.snd.snd.snd.fst).bind fun v8 =>
 Sum.elim (fun v9=>some (.inl (v9.fst,((0,()),((),()))))) (fun v9=>some (.inr (v9.fst,((v7.snd.fst.fst,()),((),(v9.snd.fst,())))))) (v8)) else
 bif decide (v7.snd.snd.fst.do_.f=(↑199:Int)) then((Cj n v7.fst v7.snd.snd.snd.fst).bind fun v8 =>
 Sum.elim (fun v9=>some (.inl (v9.fst,((0,()),((),()))))) (fun v9=>some (.inr (v9.fst,((v7.snd.fst.fst,()),((),(v9.snd.fst,())))))) (v8)) else
 bif decide (v7.snd.snd.fst.do_.f=(↑200:Int)) then((Cl n v7.fst v7.snd.snd.snd.fst).bind fun v8 =>
 Sum.elim (fun v9=>some (.inl (v9.fst,((0,()),((),()))))) (fun v9=>some (.inr (v9.fst,((v7.snd.fst.fst,()),((),(v9.snd.fst,())))))) (v8)) else
 none) else
 none) (fun v7=>some (.inr (v7.fst,((v7.snd.fst.fst,()),((),(v7.snd.snd.snd.snd.snd.fst,())))))) (v6)) (fun v4=>some (.inr (g,((e,()),((),(v4.fst,())))))) (v3)
def Px (n:Nat) (y:C.Ds Ty (AH Jq)):Option (YT Ty KN):=Aan n y.1 y.2.1 y.2.2.1.1
def ZfZ (n:Nat):List (Nat×GL Ty):=[(112,ZdY n),(138,(words_b.law n)),(139,(fgarage_ask_b.law n)),(140,(fgarage_number_b.law n)),(189,(fgarage_session_found_b.law n)),(190,(fgarage_session_held_b.law n)),(191,(fgarage_session_signed_b.law n)),(192,(fgarage_session_checked_b.law n)),(193,(fgarage_session_out_b.law n)),(194,(fgarage_session_in_b.law n)),(195,(fgarage_session_sale_b.law n)),(196,(fgarage_session_sync_b.law n)),(197,(fgarage_session_close_b.law n)),(198,(fgarage_session_driver_b.law n)),(199,(fgarage_session_duty_b.law n)),(200,(fgarage_session_give_b.law n))]
theorem W5 (n:Nat):K7 Tryz.prog (ZfZ n):=⟨Pq n,⟨words_b.ok n,⟨fgarage_ask_b.ok n,⟨fgarage_number_b.ok n,⟨fgarage_session_found_b.ok n,⟨fgarage_session_held_b.ok n,⟨fgarage_session_signed_b.ok n,⟨fgarage_session_checked_b.ok n,⟨fgarage_session_out_b.ok n,⟨fgarage_session_in_b.ok n,⟨fgarage_session_sale_b.ok n,⟨fgarage_session_sync_b.ok n,⟨fgarage_session_close_b.ok n,⟨fgarage_session_driver_b.ok n,⟨fgarage_session_duty_b.ok n,⟨fgarage_session_give_b.ok n,trivial⟩⟩⟩⟩⟩⟩⟩⟩⟩⟩⟩⟩⟩⟩⟩⟩
def ZfB (n:Nat):FO Ty:=[]
theorem Aao (n:Nat) (x:C.Ds Ty (AH IQ)):(CI Tryz.prog 50 (Ca Tryz.prog (ZfZ n) []) (A6 (ZfB n)) (Cv 7 Tryz.f84) (By IQ x)).runK (Gn 4 IQ NV (KO n))=KO (n+1) x:=by kernel_rfl
theorem Aap (n:Nat):B7 true Tryz.prog 50 (Ze9 n) (.loop (Cv 7 Tryz.f84)):=H1 fun x y hy=>Fk (Fn:=KO) Af Am (fun n=>A5 Af Am (W5 n) EO) (fun h=>by cases h) (fun h=>by cases h) (fun n=>(A0 (fn:=Tryz.f84) (L:=ZfB n) (ks:=[]) trivial (by kernel_rfl) (by kernel_rfl))) (by decide) (fun _=>rfl) Aao hy
def ZgQ (n:Nat):FO Ty:=[(.loop 7,Ze9 n)]
theorem AgF (n:Nat) (x:C.Ds Ty (AH Jq)):(CI Tryz.prog 50 (Ca Tryz.prog (ZfZ n) []) (A6 (ZgQ n)) (Nn 2 (Bz Tryz.f84)) (By Jq x)).runK (Hv 2 KN)=Px n x:=by kernel_rfl
theorem Aej (n:Nat) {x:C.Ds Ty (AH Jq)} {y:YT Ty KN} (hy:Px n x=some y):ZK true Tryz.prog 50 (Nn 2 (Bz Tryz.f84)) Jq 2 KN x y:=Ajb Af Am (A5 Af Am (W5 n) EO) (fun h=>by cases h) (fun h=>by cases h) (A0 (c:=Nn 2 (Bz Tryz.f84)) (fn:=Tryz.f84) (L:=ZgQ n) (ks:=[.loop 7]) ⟨Aap n,trivial⟩ (by kernel_rfl) (by kernel_rfl)) ((AgF n x).trans hy)
end
end Go.Proofs.YtkpgggfibljflaaGreatDoor
