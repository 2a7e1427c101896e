/- What a proof leans on: a machine that steps through code, and what functions compute. -/
import Derived.Test.YtkpgggfibljflaaGreatDoorgQS15
import Derived.Shelf.Strings.OnBuilder
set_option linter.all false
set_option maxRecDepth 100000
namespace Go.Proofs
def Tryz.laysJoin_ren:Go.Shelf.Ren:=⟨fun | 156=>92 | 165=>152 | 166=>91 | 169=>95 | 240=>151 | 241=>209 | 276=>208 | 277=>274 | n=>n,fun | 31=>22 | 9=>9 | 3=>3 | 4=>4 | 0=>0 | 20=>20 | 72=>163 | 76=>167 | 70=>161 | 37=>78 | 75=>166 | 127=>253 | 164=>297 | 5=>5 | 80=>172 | n=>n,fun | n=>n⟩
theorem Tryz.laysJoin:Go.Proofs.Lays.n156 Tryz.prog Tryz.laysJoin_ren:={
 mixed:=by kernel_rfl
 f156:=Tryz.func92.trans (congrArg some (by kernel_rfl))
 f165:=Tryz.func152.trans (congrArg some (by kernel_rfl))
 f166:=Tryz.func91.trans (congrArg some (by kernel_rfl))
 f169:=Tryz.func95.trans (congrArg some (by kernel_rfl))
 f240:=Tryz.func151.trans (congrArg some (by kernel_rfl))
 f241:=Tryz.func209.trans (congrArg some (by kernel_rfl))
 f276:=Tryz.func208.trans (congrArg some (by kernel_rfl))
 f277:=Tryz.func274.trans (congrArg some (by kernel_rfl))
 t0:=Tryz.underlying0
 a0:=Tryz.isAgg0
 z0:=Tryz.sizeOf0
 v0:=Tryz.zeroValue0
 t3:=Tryz.underlying3
 a3:=Tryz.isAgg3
 z3:=Tryz.sizeOf3
 v3:=Tryz.zeroValue3
 t4:=Tryz.underlying4
 a4:=Tryz.isAgg4
 z4:=Tryz.sizeOf4
 v4:=Tryz.zeroValue4
 t9:=Tryz.underlying9
 a9:=Tryz.isAgg9
 z9:=Tryz.sizeOf9
 v9:=Tryz.zeroValue9
 t20:=Tryz.underlying20
 a20:=Tryz.isAgg20
 z20:=Tryz.sizeOf20
 v20:=Tryz.zeroValue20
 t31:=Tryz.underlying22
 a31:=Tryz.isAgg22
 z31:=Tryz.sizeOf22
 v31:=Tryz.zeroValue22
 t37:=Tryz.underlying78
 a37:=Tryz.isAgg78
 z37:=Tryz.sizeOf78
 v37:=Tryz.zeroValue78
 t70:=Tryz.underlying161
 a70:=Tryz.isAgg161
 z70:=Tryz.sizeOf161
 v70:=Tryz.zeroValue161
 t72:=Tryz.underlying163
 a72:=Tryz.isAgg163
 z72:=Tryz.sizeOf163
 v72:=Tryz.zeroValue163
 t75:=Tryz.underlying166
 a75:=Tryz.isAgg166
 z75:=Tryz.sizeOf166
 v75:=Tryz.zeroValue166
 t76:=Tryz.underlying167
 a76:=Tryz.isAgg167
 z76:=Tryz.sizeOf167
 v76:=Tryz.zeroValue167
 t127:=Tryz.underlying253
 a127:=Tryz.isAgg253
 z127:=Tryz.sizeOf253
 v127:=Tryz.zeroValue253
 t164:=Tryz.underlying297
 a164:=Tryz.isAgg297
 z164:=Tryz.sizeOf297
 v164:=Tryz.zeroValue297 }
theorem Tryz.extraJoin:Builder.Extra Tryz.prog Tryz.laysJoin_ren where
 sizeBuilder:=by kernel_rfl
 liesBuilder:=by kernel_rfl
 t5:=Tryz.underlying5
 a5:=Tryz.isAgg5
 z5:=Tryz.sizeOf5
 v5:=Tryz.zeroValue5
 infoByte:=by kernel_rfl
 cellsByte:=by kernel_rfl
 sizeByte:=by kernel_rfl
 neB5:=by decide
namespace YtkpgggfibljflaaGreatDoor
open Go Go.RowKit Go.Proofs
open Rep (rep)
def EP (l:List ByteArray) (sep:ByteArray):ByteArray:=Ku (sep.data.toList.intercalate (l.map (·.data.toList)))
def Ado:List (Nat×C):=[(0,.l 9),(1,.s 9)]
def Adp:List Wo:=[⟨.ret,[],[],[.s 9]⟩]
def Ep (n:Nat) (l:List ByteArray) (sep:ByteArray):Option (ByteArray×Unit):=bif Nat.ble (AZ l) 100000 && Nat.ble (AZ (EP l sep).data.toList) 100000 then some (EP l sep,()) else none
noncomputable def ZeL (n:Nat):FQ Ty:=QA (ET Ado 0 Adp fun y=>Ep n y.1 y.2.1)
theorem X8 {M:Mo Ty} {F:Fr} {h:Ad} {g:GE} {w:World} (hm:Ag F h g M w) (l:List ByteArray) (sep:ByteArray) (a:Option Addr) (c:Nat) (hr:F0 h a c l) (h1:l.length≤100000) (h2:(EP l sep).data.toList.length≤100000) :
  Calls Tryz.prog 92 #[.slice a l.length c,.string sep] w fun e w'=>e=.returned (.string (EP l sep))∧w.grownBy w' none:=by
 obtain⟨vs,hc,hs,hlc⟩:=hr
 have hlen:(Lib.join (l.map (·.data.toList)) sep.data.toList).length≤140737488355328:=by
  have:(EP l sep).data.toList.length=(Lib.join (l.map (·.data.toList)) sep.data.toList).length:=rfl
  omega
 cases l with
 | nil =>
  refine(Any.strings_Join_none Tryz.laysJoin Tryz.extraJoin a c sep w).mono ?_
  rintro e w' ⟨rfl,rfl⟩
  exact⟨rfl,Dp (Below.refl _ _)⟩
 | cons x r =>
  have hvs:vs=(x::r).map Value.string:=by
   clear hs hlc h1 h2 hlen
   generalize x::r=l at hc
   induction l generalizing vs with
   | nil=>exact hc
   | cons y q ih =>
    obtain⟨c1,c2,rfl,e1,e2⟩:=hc
    have e1:c1=[.string y]:=e1
    rw [e1,ih _ e2]; rfl
  obtain⟨ad,rfl,hsp,hcl⟩:=hs 0 (.string x) (by rw [hvs]; rfl)
  obtain⟨bk,o,sp⟩:=ad
  have hsp:sp=none:=hsp
  subst hsp
  have hcells:∀ (j:Nat) y,(x::r)[j]? = some y→w.cell? ⟨bk,o+j,none⟩=some (.string y):=fun j y hj=>by
   obtain⟨ad,e1,_,e3⟩:=hs j (.string y) (by rw [hvs,ZaD,hj]; rfl)
   cases e1
   exact Ki (hm.has _ _ _ e3).2 rfl
  have hlt:bk<w.heap.size:=(hm.has _ _ _ hcl).1
  refine(Any.strings_Join Tryz.laysJoin Tryz.extraJoin bk o c (x::r) sep w hcells hlt (by omega) hlc hlen).mono ?_
  rintro e w' ⟨rfl,hb⟩
  exact⟨rfl,Dp hb⟩
theorem Wh (n:Nat):AX Tryz.prog 92 (ZeL n):=JK (HY rfl fun x y hy F h g w vals R hm hin hd fin=>by
 obtain⟨l,sep,⟨⟩⟩:=x
 change List ByteArray at l
 change ByteArray at sep
 change (bif Nat.ble (AZ l) 100000 && Nat.ble (AZ (EP l sep).data.toList) 100000 then some (EP l sep,()) else none)=some y at hy
 cases hb:(Nat.ble (AZ l) 100000 && Nat.ble (AZ (EP l sep).data.toList) 100000) with
 | false=>rw [hb] at hy; cases hy
 | true =>
  rw [hb,Zac] at hy
  obtain⟨b1,b2⟩:=Ao hb
  rw [A5] at b1 b2
  have b1:l.length≤100000:=Zaf b1
  have b2:(EP l sep).data.toList.length≤100000:=Zaf b2
  change V.dens g h [(V.lst 9 (show List (Ty 9) from l):V Ty),.str sep] vals at hd
  unfold V.dens at hd
  obtain⟨u1,r1,e1,hu,hd1⟩:=hd
  obtain⟨v2,e2,hd2⟩:=JL hd1
  unfold V.den at hu
  obtain⟨a,c,e3,hr⟩:=hu
  rw [e1,e2,C4 hd2,e3]
  refine(X8 hm l sep a c hr b1 b2).mono ?_
  rintro e w' ⟨rfl,hg⟩
  refine fin F h g w' ⟨[],[],2000⟩ false [.str (EP l sep)] [.string (EP l sep)] rfl (FD.refl F []) (Ad.le_refl h) (fun _ _=>rfl) (by show 2000≤2000; omega) ((hm.grow hg).less (fun i c hi=>by cases hi)) (fun i c hi=>by cases hi) ?_ (HZ (by unfold V.den; rfl)) rfl
  rw [← hy]; kernel_rfl)
end YtkpgggfibljflaaGreatDoor
end Go.Proofs
namespace Go.Proofs.YtkpgggfibljflaaGreatDoor
noncomputable section
open Go Go.RowKit Go.Proofs Go.Shelf
open Rep (rep)
theorem Acb {F:Fr} {h:Ad} {g:GE} {w:World} {s:Az Ty} {i:Nat} {c:A7 Ty} (hm:Ag F h g (Mo.put (AL.get s) i (some c)) w):Ag F h g (AL.get (AL.put s i c)) w:=hm.less fun j d hj=>by
 rw [AL.get_put] at hj
 unfold Mo.put
 split at hj
 · rename_i h; rw [if_pos h.symm]; exact hj
 · rename_i h; rw [if_neg (fun hh=>h hh.symm)]; exact hj
theorem Wi (n:Nat):AX Tryz.prog 151 (ZdK n):=by
 intro args k s r hr F h g w vals hm hin hargs hden
 unfold ZdK at hr
 split at hr
 · rename_i i off
   cases hb:Nat.beq off 0 with
   | false=>rw [hb] at hr; cases hr
   | true =>
    rw [hb,Zac] at hr
    have h0:=Zab hb
    subst h0
    have hv:vals=[.pointer (some ⟨(g i).b,0,none⟩)]:=by
     unfold V.dens at hden
     obtain⟨u1,r1,rfl,e1,hd⟩:=hden
     rw [C4 hd]
     unfold V.den at e1
     rw [e1]
    rw [hv]
    split at hr
    · rename_i t x hs
      cases hb2:Nat.beq t 163 with
      | false=>rw [hb2] at hr; cases hr
      | true =>
       rw [hb2,Zac] at hr
       have ht:=Zab hb2
       subst ht
       cases hr
       obtain⟨us,T,b1,b2,b3,b4,b5⟩:=hm.blkT hs
       have hT:T=163:=b5.elim (fun h=>by cases h) id
       subst hT
       unfold V.dens at b2
       obtain⟨u1,us1,rfl,d1,d2⟩:=b2
       unfold V.dens at d2
       obtain⟨u2,us2,rfl,d3,d4⟩:=d2
       have d4:=C4 d4
       subst d4
       unfold V.den at d1
       subst d1
       have hok:=(hin _ _ hs).2
       have hi:=(hin _ _ hs).1
       refine .of rfl ((Any.Builder_copyCheck_fresh { Tryz.laysJoin with } Tryz.extraJoin.toX72 (g i).b w ?_ ?_ ?_).mono ?_)
       · unfold World.cell?; simp only [b1]; rfl
       · unfold World.shape?; rw [b1]; rfl
       · unfold World.frozen?; simp [b1]
       · rintro en w' ⟨rfl,rfl⟩
         refine⟨h,g,.tuple #[],Ad.le_refl _,fun _ _=>rfl,Acb (hm.set hs b4 (H9 w ⟨(g i).b,0,none⟩ _) ⟨b4,[.pointer (some ⟨(g i).b,0,none⟩),u2],163,?_,?_,?_,.inr rfl⟩),HG.putC hin (Am.1 hi) ?_,Zal _,rfl,?_,rfl⟩
         · unfold World.setCell
           simp [Zbb,b1]
         · unfold V.dens V.dens V.dens
           exact⟨_,_,rfl,by unfold V.den; rfl,_,_,rfl,d3,rfl⟩
         · intro u hu
           rcases Zam.1 hu with rfl | hu
           · rfl
           · exact b3 u (Zbe _ hu)
         · have e1:V.oksB (Cl k) [(.nilp:V Ty),x]=true:=hok
           unfold V.oksB at e1
           show V.oksB (Cl k) [(.ptr i 0:V Ty),x]=true
           unfold V.oksB
           rw [(Ao e1).2,Bool.and_true]
           unfold V.okB
           exact hi
         · unfold V.den; exact⟨[],rfl,rfl⟩
    · rename_i t j o x hs
      cases hb2:(Nat.beq j i && Nat.beq o 0) with
      | false=>rw [hb2] at hr; cases hr
      | true =>
       rw [hb2,Zac] at hr
       obtain⟨hj,ho⟩:=Ao hb2
       have hj:=Zab hj
       have ho:=Zab ho
       subst hj ho
       cases hr
       obtain⟨us,T,b1,b2,b3,b4,b5⟩:=hm.blk hs
       unfold V.dens at b2
       obtain⟨u1,us1,rfl,d1,d2⟩:=b2
       unfold V.den at d1
       subst d1
       refine .of rfl ((Any.Builder_copyCheck_used { Tryz.laysJoin with } Tryz.extraJoin.toX72 (g j).b w (b5 0 _ rfl)).mono ?_)
       rintro en w' ⟨rfl,rfl⟩
       exact⟨h,g,.tuple #[],Ad.le_refl _,fun _ _=>rfl,hm,hin,Zal _,rfl,by unfold V.den; exact⟨[],rfl,rfl⟩,rfl⟩
    · cases hr
 · cases hr
set_option maxHeartbeats 2000000 in
theorem X9 (b:Nat) (T:TypeId) (p v:Value) (l:List UInt8) (w:World) (hbk:w.heap[b]? = some (.cells #[p,v] T (0,0)))
  (hv:(v=.slice none 0 0∧l=[])∨∃ (g cap:Nat)(cur:Array Value),v=.slice (some ⟨g,0,none⟩) l.length cap∧w.heap[g]? = some (.cells cur 5 (0,0))∧l.length≤cap∧cap≤maxLen∧cur.size=cap∧∀ (j:Nat)(x:UInt8),l[j]? = some x→cur[j]? = some (.int .u8 x.toNat)) :
  Calls Tryz.prog 95 #[.pointer (some ⟨b,0,none⟩)] w fun e w'=>e=.returned (.string ⟨l.toArray⟩)∧(w.grownBy w' none∨∃ g n c,v=.slice (some ⟨g,0,none⟩) n c∧w.grownBy w' (some g)):=by
 have c1:w.drew.cell? ⟨b,1,none⟩=some v:=by
  have:w.drew.heap[b]? = some (.cells #[p,v] T (0,0)):=hbk
  rw [Lib.cell_of_heap this]; rfl
 have hd:w.grownBy w.drew none:=⟨rfl,rfl,rfl,Zal _,fun _ _ _=>rfl⟩
 have hUS:∀ (W:World)(q:Option Addr),(Builtin.unsafeString_ #[253,3] 9 #[.pointer q,.int .i64 0]).run Tryz.prog W=.ok (.string .empty) W:=fun W q=>Any.unsafeString_none (P:=Tryz.prog) (ρ:=Tryz.laysJoin_ren) { Tryz.laysJoin with } Tryz.extraJoin W q
 rcases hv with⟨rfl,rfl⟩ | ⟨g,cap,cur,rfl,hg,h1,h2,h3,h4⟩
 · have hSD:(Builtin.unsafeSliceData_ #[78] 253 #[.slice none 0 0]).run Tryz.prog w.drew=.ok (.pointer none) w.drew:=rfl
   go_enter Tryz.func95,Tryz.ntmps95
   go_wp2
   go_region
   all_goals (go_wp2; go_ret; exact⟨rfl,.inl hd⟩)
 · have hg':w.drew.heap[g]? = some (.cells cur 5 (0,0)):=hg
   rcases ZaW l.length with hl | hl
   · have hl:l=[]:=Za3 hl
     subst hl
     rcases ZaW cap with rfl | hc0
     · have hSD:(Builtin.unsafeSliceData_ #[78] 253 #[.slice (some ⟨g,0,none⟩) 0 0]).run Tryz.prog w.drew=.ok (.pointer (some ⟨w.drew.heap.size,0,none⟩)) (w.drew.alloc (.view ⟨g,0,none⟩ 5)) :=
        Lib.run_unsafeSliceData_zero w.drew _ _ 5 Tryz.underlying253 ⟨g,0,none⟩ 0 (5,cur.size) (by simp [World.shape?,hg'])
       have hlt:b<w.heap.size:=(Zag.1 hbk).1
       have c2:(w.drew.alloc (.view ⟨g,0,none⟩ 5)).cell? ⟨b,1,none⟩=some (.slice (some ⟨g,0,none⟩) 0 0):=by
        have:(w.drew.alloc (.view ⟨g,0,none⟩ 5)).heap[b]? = some (.cells #[p,.slice (some ⟨g,0,none⟩) 0 0] T (0,0)):=(Lib.alloc_old w.drew _ b hlt).trans hbk
        rw [Lib.cell_of_heap this]; rfl
       have c3:(w.alloc (.view ⟨g,0,none⟩ 5)).drew.cell? ⟨b,1,none⟩=some (.slice (some ⟨g,0,none⟩) 0 0):=c2
       have c0:w.cell? ⟨b,1,none⟩=some (.slice (some ⟨g,0,none⟩) 0 0):=c1
       have hda:w.grownBy (w.drew.alloc (.view ⟨g,0,none⟩ 5)) none:=hd.trans (World.grownBy_alloc _ _ none)
       go_enter Tryz.func95,Tryz.ntmps95
       go_wp2
       go_region
       all_goals (go_wp2; go_ret; exact⟨rfl,.inl hda⟩)
     · have hSD:(Builtin.unsafeSliceData_ #[78] 253 #[.slice (some ⟨g,0,none⟩) 0 cap]).run Tryz.prog w.drew=.ok (.pointer (some ⟨g,0,none⟩)) w.drew :=
        Lib.run_unsafeSliceData_row _ _ _ _ _ _ (by omega)
       go_enter Tryz.func95,Tryz.ntmps95
       go_wp2
       go_region
       all_goals (go_wp2; go_ret; exact⟨rfl,.inl hd⟩)
   · have hSD:(Builtin.unsafeSliceData_ #[78] 253 #[.slice (some ⟨g,0,none⟩) l.length cap]).run Tryz.prog w.drew=.ok (.pointer (some ⟨g,0,none⟩)) w.drew :=
      Lib.run_unsafeSliceData_row _ _ _ _ _ _ (by omega)
     have hUS2:(Builtin.unsafeString_ #[253,3] 9 #[.pointer (some ⟨g,0,none⟩),.int .i64 l.length]).run Tryz.prog w.drew=.ok (.string ⟨l.toArray⟩) (w.drew.freeze ⟨g,0,none⟩ l.length):=by
      refine Lib.run_unsafeString_row w.drew 253 3 9 5 Tryz.underlying253 Tryz.extraJoin.cellsByte g cur.size (by simp [World.shape?,hg']) l (fun hh=>by rw [hh] at hl; cases hl) (by omega) (by unfold maxLen at h2; omega) ?_
      intro j x hx
      rw [show(⟨g,0,none⟩:Addr).add j=⟨g,j,none⟩ by unfold Addr.add; split <;> simp_all,cell_of_row w.drew _ j _ _ _ hg']
      exact h4 j x hx
     have hfr:w.grownBy (w.drew.freeze ⟨g,0,none⟩ l.length) (some g):=(show w.grownBy w.drew (some g) from⟨rfl,rfl,rfl,Zal _,fun _ _ _=>rfl⟩).trans (Ms w.drew ⟨g,0,none⟩ l.length)
     go_enter Tryz.func95,Tryz.ntmps95
     go_wp2
     go_region
     all_goals (go_wp2; go_ret; exact⟨rfl,.inr ⟨g,_,_,rfl,hfr⟩⟩)
theorem Wj (n:Nat):AX Tryz.prog 95 (ZdL n):=by
 intro args k s r hr F h g w vals hm hin hargs hden
 unfold ZdL at hr
 split at hr
 · rename_i i off
   cases hb:Nat.beq off 0 with
   | false=>rw [hb] at hr; cases hr
   | true =>
    rw [hb,Zac] at hr
    have h0:=Zab hb
    subst h0
    have hv:vals=[.pointer (some ⟨(g i).b,0,none⟩)]:=by
     unfold V.dens at hden
     obtain⟨u1,r1,rfl,e1,hd⟩:=hden
     rw [C4 hd]
     unfold V.den at e1
     rw [e1]
    rw [hv]
    split at hr
    · rename_i t a k5 j hs
      cases hb2:Nat.beq k5 5 with
      | false=>rw [hb2] at hr; cases hr
      | true =>
       rw [hb2,Zac] at hr
       have hk:=Zab hb2
       subst hk
       split at hr
       · rename_i k2 l hj
         split at hr
         · rename_i hk2
           subst hk2
           rw [Tr.runK_ask] at hr
           obtain⟨bb,hbb,hr⟩:=Zae.1 hr
           cases hr
           obtain⟨us,T,b1,b2,b3,b4,b5⟩:=hm.blk hs
           unfold V.dens at b2
           obtain⟨u1,us1,rfl,d1,d2⟩:=b2
           unfold V.dens at d2
           obtain⟨u2,us2,rfl,d3,d4⟩:=d2
           have d4:=C4 d4
           subst d4
           unfold V.den at d3
           obtain⟨r1,r2⟩:=hm.row hj
           unfold KM at hbb
           change List (IK .u8) at l
           cases hall:(l.all fun x=>decide (0≤x.n) && decide (x.n<256)) with
           | false=>rw [show(bif l.all (fun x=>decide (0≤x.n) && decide (x.n<256)) then some (QO l) else none)=none from by rw [hall]; rfl] at hbb; cases hbb
           | true =>
            have hbb:some (QO l)=some bb:=by rw [← hbb]; show _=(bif l.all (fun x=>decide (0≤x.n) && decide (x.n<256)) then some (QO l) else none); rw [hall]; rfl
            cases hbb
            have hle:(l.map fun x=>UInt8.ofNat x.n.toNat).length=(g j).n:=by rw [ZaH]; exact r1
            have hm0:Ag F h g (AL.get ([]:Az Ty)) w:=hm.less fun i c hi=>by cases hi
            have hrow:(u2=.slice none 0 0∧(l.map fun x=>UInt8.ofNat x.n.toNat)=[])∨∃ (gb cap:Nat)(cur:Array Value),u2=.slice (some ⟨gb,0,none⟩) (l.map fun x=>UInt8.ofNat x.n.toNat).length cap∧w.heap[gb]? = some (.cells cur 5 (0,0))∧(l.map fun x=>UInt8.ofNat x.n.toNat).length≤cap∧cap≤maxLen∧cur.size=cap∧∀ (q:Nat)(x:UInt8),(l.map fun x=>UInt8.ofNat x.n.toNat)[q]? = some x→cur[q]? = some (.int .u8 x.toNat):=by
             rcases r2 with⟨n1,rfl⟩ | ⟨n1,vs,sp,n2,n3,n4,n5,n6,n7⟩
             · rw [if_pos n1] at d3
               exact .inl ⟨d3,rfl⟩
             · rw [if_neg (by rw [n1]; exact Bool.false_ne_true)] at d3
               have n4':(vs++sp).length=(g j).c*1:=n4
               refine .inr ⟨(g j).b,(g j).c,(vs++sp).toArray,by rw [hle]; exact d3,n2,by rw [hle]; exact n5,n6,by simpa using n4',fun q x hq=>?_⟩
               rw [ZaD] at hq
               obtain⟨y,hy,rfl⟩:=Zat.1 hq
               have hyr:0≤y.n∧y.n<256:=by simpa using ZaE.1 hall y (Za4 hy)
               have hvs:∀ (l:List (IK .u8))(vs:List Value),Ar h l vs→vs=l.map fun x=>.int .u8 x.n:=by
                intro l
                induction l with
                | nil=>intro vs hc; exact hc
                | cons z r ih =>
                 intro vs hc
                 obtain⟨c1,c2,rfl,e1,e2⟩:=hc
                 have e1:c1=[.int .u8 z.n]:=e1
                 rw [e1,ih _ e2]; rfl
               have hvs:=hvs l vs n3
               have hlt:q<vs.length:=by rw [hvs,ZaH]; exact(Zaq.1 hy).1
               rw [Zbs,Zau hlt,hvs,ZaD,hy]
               show some (Value.int .u8 y.n)=some (.int .u8 _)
               rw [UInt8.toNat_ofNat',Nat.mod_eq_of_lt (by omega),Int.toNat_of_nonneg hyr.1]
            refine .of rfl ((X9 (g i).b T u1 u2 _ w b1 hrow).mono ?_)
            rintro en w' ⟨rfl,hw⟩
            have hmw:Ag F h g (AL.get ([]:Az Ty)) w':=by
             rcases hw with hw | ⟨gb,n1,c1,e1,hw⟩
             · exact hm0.grow hw
             · obtain⟨rfl⟩:gb=(g j).b:=by
                cases hnl:(g j).nl with
                | true=>rw [if_pos hnl,e1] at d3; cases d3
                | false=>rw [if_neg (by rw [hnl]; exact Bool.false_ne_true),e1] at d3; cases d3; rfl
               have hnl:(g j).nl=false:=by
                cases hnl:(g j).nl with
                | true=>rw [if_pos hnl,e1] at d3; cases d3
                | false=>rfl
               obtain⟨o1,o2,o3,o4⟩:=hm.own j _ hj hnl
               exact hm0.setFree hw o1 o3 o4 fun q d hq=>by cases hq
            exact⟨h,g,.string (QO l),Ad.le_refl _,fun _ _=>rfl,hmw,(show HG k (AL.get ([]:Az Ty)) from fun q d hq=>by cases hq),Zal _,rfl,by unfold V.den; rfl,rfl⟩
         · cases hr
       · cases hr
    · cases hr
 · cases hr
open Go Go.RowKit Go.Proofs
noncomputable section
structure LB where
 f:Nat
 law:Nat→FQ Ty
 ok:∀ n,AX Tryz.prog f (law n)
def Ow:List LB→Nat→List (Nat×FQ Ty)
 | [],_=>[]
 | b::t,n=>(b.f,b.law n)::Ow t n
theorem Dq:∀ (t:List LB)(n:Nat),JF Tryz.prog (Ow t n)
 | [],_=>trivial
 | b::t,n=>⟨b.ok n,Dq t n⟩
structure CB (fn:Func) where
 k:J3
 F:Nat→St Ty→Tr (Lf Ty)
 ok:∀ n,Bm true Tryz.prog fn.ntmps (F n) (DT k fn)
def cl {fn:Func}:List (CB fn)→Nat→EG Ty
 | [],_=>[]
 | b::t,n=>(b.k,b.F n)::cl t n
theorem Aeq {fn:Func}:∀ (L:List (CB fn))(n:Nat),T5 true Tryz.prog fn.ntmps fn (cl L n)
 | [],_=>trivial
 | b::t,n=>⟨b.ok n,Aeq t n⟩
abbrev Afp (D:List (Nat×C)) (E:List Wo):=Nat→C.Ds Ty (A9 D)→Option (YT Ty E)
def lp {fn:Func} (r:Nat) (D:List (Nat×C)) (kp:Nat) (E:List Wo) (F:Afp D E) (t:List LB) (L:List (CB fn))
  (h1:∀ n,Br (A0 (cl L n)) (BR r fn)=(L.map fun b=>b.k).map fun k=>DT k fn:=by intro n; kernel_rfl)
  (h2:(L.map fun b=>b.k).map (fun k=>GO (DT k fn))=L.map fun b=>b.k:=by kernel_rfl)
  (h3:Nat.ble kp Au=true:=by kernel_rfl) (h0:∀ x,F 0 x=none:=by intro x; kernel_rfl)
  (hr:∀ n x,(Cv Tryz.prog fn.ntmps (BJ Tryz.prog (Ow t n) []) (A0 (cl L n)) (BR r fn) (Bp D x)).runK (EE kp D E (F n))=F (n+1) x:=by intro n x; kernel_rfl):CB fn :=
 ⟨.loop r,fun n=>K4 D kp E (F n),fun n=>FO fun x y hy=>DR (Fn:=F) Ae Aj (fun n=>A3 Ae Aj (Dq t n) Eu) (fun h=>by cases h) (fun h=>by cases h) (fun n=>Ay (Aeq L n) (h1 n) h2) (Zaf h3) h0 hr hy⟩
def dk:Nat→List C→List (Nat×C)
 | _,[]=>[]
 | i,c::l=>(i,c)::dk (i+1) l
theorem AdF:∀ (cs:List C)(i:Nat),Lr i (dk i cs)=true
 | [],_=>rfl
 | c::l,i=>by
  show(Nat.beq i i && Lr (i+1) (dk (i+1) l))=true
  rw [AdF l (i+1),Nat.beq_refl]; rfl
def lw {f:Nat} {fn:Func} (hf:Tryz.prog.funcs[f]? = some fn) (cs:List C) (kp:Nat) (E:List Wo) (F:Afp (dk 0 cs) E) (t:List LB) (L:List (CB fn))
  (h1:∀ n,Br (A0 (cl L n)) (Bs fn)=(L.map fun b=>b.k).map fun k=>DT k fn:=by intro n; kernel_rfl)
  (h2:(L.map fun b=>b.k).map (fun k=>GO (DT k fn))=L.map fun b=>b.k:=by kernel_rfl)
  (h3:fn.body=some (Bs fn):=by kernel_rfl) (h4:Nat.ble (dk 0 cs).length fn.ntmps=true:=by kernel_rfl) (h5:Nat.blt f An=true:=by kernel_rfl)
  (hr:∀ n x,(Cv Tryz.prog fn.ntmps (BJ Tryz.prog (Ow t n) []) (A0 (cl L n)) (Bs fn) (Bp (dk 0 cs) x)).runK (Gj Tryz.prog fn.results.toList kp E)=F n x:=by intro n x; kernel_rfl):LB :=
 ⟨f,fun n=>ET (dk 0 cs) kp E (F n),fun n=>H7 hf h3 (AdF cs 0) (Zaf h4) h5 Ae Aj (A3 Ae Aj (Dq t n) Eu) (Ay (Aeq L n) (h1 n) h2) (hr n)⟩
def LB.rd (b:LB):LB:=⟨b.f,fun n=>QA (b.law n),fun n=>JK (b.ok n)⟩
def rt (l:List C):List Wo:=[⟨.ret,[],[],l⟩]
end
section
variable {a b c d e f g h i j r:Type}
def u1 (F:Nat→a→Option r) (n:Nat) (y:a×b):Option r:=F n y.1
def u2 (F:Nat→a→b→Option r) (n:Nat) (y:a×b×c):Option r:=F n y.1 y.2.1
def u3 (F:Nat→a→b→c→Option r) (n:Nat) (y:a×b×c×d):Option r:=F n y.1 y.2.1 y.2.2.1
def u4 (F:Nat→a→b→c→d→Option r) (n:Nat) (y:a×b×c×d×e):Option r:=F n y.1 y.2.1 y.2.2.1 y.2.2.2.1
def u5 (F:Nat→a→b→c→d→e→Option r) (n:Nat) (y:a×b×c×d×e×f):Option r:=F n y.1 y.2.1 y.2.2.1 y.2.2.2.1 y.2.2.2.2.1
def u6 (F:Nat→a→b→c→d→e→f→Option r) (n:Nat) (y:a×b×c×d×e×f×g):Option r:=F n y.1 y.2.1 y.2.2.1 y.2.2.2.1 y.2.2.2.2.1 y.2.2.2.2.2.1
def u8 (F:Nat→a→b→c→d→e→f→g→h→Option r) (n:Nat) (y:a×b×c×d×e×f×g×h×i):Option r:=F n y.1 y.2.1 y.2.2.1 y.2.2.2.1 y.2.2.2.2.1 y.2.2.2.2.2.1 y.2.2.2.2.2.2.1 y.2.2.2.2.2.2.2.1
end
def GX:Nat→(List (List Ab))→Int→(List (List Ab))→Int→Int→Option ((List (List Ab)×Int×Unit))
 | 0,_,_,_,_,_=>none
 | n+1,slices,size,x9,x10,x11 =>
  bif decide (x11<x10) then((A4 x9 x11).bind fun v0 =>
  bif decide (IntKind.i64.wrap (size+(↑v0.length:Int))<0) then(none) else
  GX n slices (IntKind.i64.wrap (size+(↑v0.length:Int))) x9 x10 (IntKind.i64.wrap (x11+1))) else
  some (slices,(size,()))
def GY:Nat→(List Ab)→(List (List Ab))→Int→Int→Option ((List Ab×Unit))
 | 0,_,_,_,_=>none
 | n+1,newslice,x25,x26,x27 =>
  bif decide (x27<x26) then((A4 x25 x27).bind fun v0 =>
  (app newslice v0).bind fun v1 =>
  GY n v1 x25 x26 (IntKind.i64.wrap (x27+1))) else
  some (newslice,())
def ON (n:Nat) (slices:List (List Ab)):Option ((List Ab×Unit)) :=
 (GX n slices 0 slices (↑slices.length:Int) 0).bind fun v0 =>
 (bif decide (0≤v0.snd.fst) && decide (v0.snd.fst≤1000000000) then some () else none).bind fun v1 =>
 (GY n [] v0.fst (↑v0.fst.length:Int) 0).bind fun v2 =>
 some (v2.fst,())
def Zfu:LB:=⟨187,ZdJ,Wf⟩
def ZdP:List LB:=[Zfu]
def ZeP:CB Tryz.f131:=lp 3 [(0,.l 28),(3,.s 3),(9,.l 28),(10,.s 3),(11,.s 3)] 0 [⟨.exit 0,[],[(0,.l 28),(3,.s 3)],[]⟩] (u5 GX) ZdP []
def ZeQ:CB Tryz.f131:=lp 11 [(6,.o 93),(25,.l 28),(26,.s 3),(27,.s 3)] 0 [⟨.exit 2,[],[(6,.o 93)],[]⟩] (u4 GY) ZdP []
def Zfn:LB:=lw Tryz.func131 [.l 28] 0 (rt [.o 93]) (u1 ON) ZdP [ZeP,ZeQ]
def As (n:Nat) (is:Bool) (e:Int):Option (Unit ⊕ ((Av×Unit))) :=
 bif !is then(some (.inr (Av.mk e,()))) else
 some (.inl ())
def fgarage_ask_b:LB:=lw Tryz.func139 [.s 4,.s 3] 0 [⟨.ret,[],[],[]⟩,⟨.pan,[],[],[.i 234 (.g 234)]⟩] (u2 As) [] []
def DJ (n:Nat) (l:List Ap) (x:Ap):Option ((List Ap×Unit)) :=
 (QV n l).bind fun v0 =>
 (app v0.fst [x]).bind fun v1 =>
 some (v1,())
def Zfj:LB:=⟨340,ZdO,QW⟩
def Zd7:LB:=lw Tryz.func308 [.l 180,.g 180] 0 (rt [.l 180]) (u2 DJ) [Zfj] []
def D6 (n:Nat) (c:Ap):Option ((Bool×Unit)) :=
 bif decide (0≤c.bus) then(bif decide (c.bus≤99) then(bif decide (1≤c.number) then(bif decide (c.number≤999) then(bif decide (0≤c.minute) then(bif decide (c.minute≤1000000) then(bif decide (IntKind.i64.wrap c.kind.n<(↑[EU.mk (Fp.mk (↑212:Int)),EU.mk (Fp.mk (↑212:Int)),EU.mk (Fp.mk (↑213:Int)),EU.mk (Fp.mk (↑214:Int))].length:Int)) then((A4 [EU.mk (Fp.mk (↑212:Int)),EU.mk (Fp.mk (↑212:Int)),EU.mk (Fp.mk (↑213:Int)),EU.mk (Fp.mk (↑214:Int))] c.kind.n).bind fun v0 =>
 ([EU.mk (Fp.mk (↑212:Int)),EU.mk (Fp.mk (↑212:Int)),EU.mk (Fp.mk (↑213:Int)),EU.mk (Fp.mk (↑214:Int))].get?Internal c.kind.n.toNat).bind fun v1 =>
 bif decide (v1.right.f=(↑212:Int)) then(bif decide (0≤c.part) then(bif decide (c.part≤15) then(some (decide (c.sg=0),())) else
 some (false,())) else
 some (false,())) else
 bif decide (v1.right.f=(↑213:Int)) then(bif decide (c.part=0) then(bif decide (1≤c.sg) then(some (decide (c.sg≤999),())) else
 some (false,())) else
 some (false,())) else
 bif decide (v1.right.f=(↑214:Int)) then(bif decide (c.part=0) then(some (decide (c.sg=0),())) else
 some (false,())) else
 none) else
 some (false,())) else
 some (false,())) else
 some (false,())) else
 some (false,())) else
 some (false,())) else
 some (false,())) else
 some (false,())
def Zea:LB:=lw Tryz.func106 [.g 180] 0 (rt [.s 4]) (u1 D6) [] []
def DU:List (Nat×C):=[(4,.p 0 [.m 3 180,.o 3]),(20,.l 180),(21,.s 3),(22,.s 3)]
def GZ:List Wo:=[⟨.exit 1,[.p 0 [.m 3 180,.o 3],.q 1],[(4,.q 0)],[]⟩,⟨.ret,[.p 0 [.m 3 180,.o 3],.q 1],[(2,.z),(3,.s 3)],[]⟩]
def Hz:List (Nat×C):=[(0,.l 180)]
def JN:List Wo:=[⟨.ret,[],[],[.z,.s 3]⟩,⟨.ret,[],[],[.p 0 [.m 3 180,.l 3],.s 3]⟩]
def Dv:Nat→(List Ap)→Int→Int→Option ((((Unit×Unit)×Unit)×Unit) ⊕ ((((Unit×Unit)×Unit)×Int×Unit)))
 | 0,_,_,_=>none
 | n+1,s,x7,x8 =>
  bif decide (x8<x7) then((A4 s x8).bind fun v0 =>
  (D6 n v0).bind fun v1 =>
  bif !v1.fst then(some (.inr ((((),()),()),(x8,())))) else
  Dv n s x7 (IntKind.i64.wrap (x8+1))) else
  some (.inl ((((),()),()),()))
def BB:Nat→(List (Int×Ap))→(List Int)→(List Ap)→Int→Int→Option ((((List (Int×Ap))×List Int×Unit)×Unit×Unit×Unit) ⊕ ((((List (Int×Ap))×List Int×Unit)×Unit×Unit×Int×Unit)))
 | 0,_,_,_,_,_=>none
 | n+1,b1,b2,x20,x21,x22 =>
  bif decide (x22<x21) then((A4 x20 x22).bind fun v0 =>
  bif Dm DO b1 v0.number then(bif !(decide ((AN DO b1 v0.number (Ap.mk 0 0 0 (IK.mk 0) 0 0)).bus=v0.bus) && (decide ((AN DO b1 v0.number (Ap.mk 0 0 0 (IK.mk 0) 0 0)).number=v0.number) && (decide ((AN DO b1 v0.number (Ap.mk 0 0 0 (IK.mk 0) 0 0)).minute=v0.minute) && (decide ((AN DO b1 v0.number (Ap.mk 0 0 0 (IK.mk 0) 0 0)).kind.n=v0.kind.n) && (decide ((AN DO b1 v0.number (Ap.mk 0 0 0 (IK.mk 0) 0 0)).part=v0.part) && (decide ((AN DO b1 v0.number (Ap.mk 0 0 0 (IK.mk 0) 0 0)).sg=v0.sg) && true)))))) then(some (.inr ((b1,(b2,())),((),((),(6,())))))) else
  bif !Dm DO b1 v0.number then((app b2 [v0.number]).bind fun v1 =>
  BB n (Fe DO b1 v0.number v0) v1 x20 x21 (IntKind.i64.wrap (x22+1))) else
  BB n b1 b2 x20 x21 (IntKind.i64.wrap (x22+1))) else
  bif !Dm DO b1 v0.number then((app b2 [v0.number]).bind fun v1 =>
  BB n (Fe DO b1 v0.number v0) v1 x20 x21 (IntKind.i64.wrap (x22+1))) else
  BB n b1 b2 x20 x21 (IntKind.i64.wrap (x22+1))) else
  some (.inl ((b1,(b2,())),((),((),()))))
def Fm (n:Nat) (y:C.Ds Ty (A9 DU)):Option (YT Ty GZ):=BB n y.1.1 y.1.2.1 y.2.1 y.2.2.1 y.2.2.2.1
def ZcO (n:Nat):St Ty→Tr (Lf Ty):=K4 DU 2 GZ (Fm n)
def Ia (n:Nat) (l:List Ap):Option ((Unit×Int×Unit) ⊕ ((((List (Int×Ap))×List Int×Unit)×Int×Unit))) :=
 bif decide ((↑l.length:Int)>40) then(some (.inl ((),(3,())))) else
 (Dv n l (↑l.length:Int) 0).bind fun v0 =>
 Sum.elim (fun v1=>(BB n [] [] l (↑l.length:Int) 0).bind fun v2 =>
 Sum.elim (fun v3=>(Xt v3.fst.snd.fst).bind fun v4 =>
 some (.inr ((v3.fst.fst,(v4,())),(0,())))) (fun v3=>some (.inl ((),(v3.snd.snd.snd.fst,())))) (v2)) (fun v1=>bif !!decide (v1.snd.fst≥0) then(some (.inl ((),(1,())))) else
 (BB n [] [] l (↑l.length:Int) 0).bind fun v2 =>
 Sum.elim (fun v3=>(Xt v3.fst.snd.fst).bind fun v4 =>
 some (.inr ((v3.fst.fst,(v4,())),(0,())))) (fun v3=>some (.inl ((),(v3.snd.snd.snd.fst,())))) (v2)) (v0)
def Ox (n:Nat) (y:C.Ds Ty (A9 Hz)):Option (YT Ty JN):=Ia n y.1
def Zd6 (n:Nat):FQ Ty:=ET Hz 0 JN (Ox n)
def Zfv:LB:=⟨108,ZeG,Wb⟩
def Zcc:List LB:=[Zea,Zfv]
def fpit_read_i2_b:CB Tryz.f210:=lp 2 [(0,.l 180),(1,.f 158 [] [.p 0 [.f 106 [] []]]),(7,.s 3),(8,.s 3)] 1 [⟨.exit 0,[.p 0 [.f 106 [] []]],[],[]⟩,⟨.ret,[.p 0 [.f 106 [] []]],[(4,.s 3)],[]⟩] (fun n y=>Dv n y.1 y.2.2.1 y.2.2.2.1) Zcc []
def ZcP (n:Nat):Je Ty:=[(210,[(.loop 2,(fpit_read_i2_b.F n))])]
theorem JO (n:Nat):Gl Tryz.prog (ZcP n):=⟨DG (f:=210) Tryz.func210 rfl (Ay (fn:=Tryz.f210) (L:=[(.loop 2,(fpit_read_i2_b.F n))]) (ks:=[.loop 2]) ⟨fpit_read_i2_b.ok n,trivial⟩ (by kernel_rfl) (by kernel_rfl)),trivial⟩
def Zdh (n:Nat):EG Ty:=[]
theorem OA (n:Nat) (x:C.Ds Ty (A9 DU)):(Cv Tryz.prog 69 (BJ Tryz.prog ((Ow Zcc n)) (ZcP n)) (A0 (Zdh n)) (BR 7 Tryz.f66) (Bp DU x)).runK (EE 2 DU GZ (Fm n))=Fm (n+1) x:=by kernel_rfl
theorem OB (n:Nat):Bm true Tryz.prog 69 (ZcO n) (.loop (BR 7 Tryz.f66)):=FO fun x y hy=>DR (Fn:=Fm) Ae Aj (fun n=>A3 Ae Aj ((Dq Zcc n)) (JO n)) (fun h=>by cases h) (fun h=>by cases h) (fun n=>(Ay (fn:=Tryz.f66) (L:=Zdh n) (ks:=[]) trivial (by kernel_rfl) (by kernel_rfl))) (by decide) (fun _=>rfl) OA hy
def Zek (n:Nat):EG Ty:=[(.loop 7,ZcO n)]
theorem Ue (n:Nat) (x:C.Ds Ty (A9 Hz)):(Cv Tryz.prog 69 (BJ Tryz.prog ((Ow Zcc n)) (ZcP n)) (A0 (Zek n)) (Bs Tryz.f66) (Bp Hz x)).runK (Gj Tryz.prog Tryz.f66.results.toList 0 JN)=Ox n x:=by kernel_rfl
theorem OC (n:Nat):AX Tryz.prog 66 (Zd6 n):=H7 Tryz.func66 rfl rfl (by decide) rfl Ae Aj (A3 Ae Aj ((Dq Zcc n)) (JO n)) (Ay (fn:=Tryz.f66) (L:=Zek n) (ks:=[.loop 7]) ⟨OB n,trivial⟩ (by kernel_rfl) (by kernel_rfl)) (Ue n)
def EB (n:Nat) (l:List Ap):Option ((Int×Unit)) :=
 (Ia n l).bind fun v0 =>
 Sum.elim (fun v1=>some (v1.snd.fst,())) (fun v1=>some (v1.snd.fst,())) (v0)
def Zel:LB:=⟨66,Zd6,OC⟩
def Zeb:LB:=(lw Tryz.func309 [.l 180] 0 (rt [.s 3]) (u1 EB) [Zel] []).rd
def Ce (n:Nat) (e:Int):Option (Unit ⊕ ((Av×Unit))) :=
 (As n (decide (e=0)) e).bind fun v0 =>
 Sum.elim (fun v1=>some (.inl ())) (fun v1=>some (.inr (v1.fst,()))) (v0)
def ZbE:LB:=lw Tryz.func259 [.s 3] 0 [⟨.ret,[],[],[]⟩,⟨.pan,[],[],[.i 234 (.g 234)]⟩] (u1 Ce) [fgarage_ask_b] []
def AU:Nat→Aa→Ap→(List Ap)→Int→Int→Option ((Aa×Ap×Unit×Unit×Unit) ⊕ ((Aa×Ap×Av×Unit)))
 | 0,_,_,_,_,_=>none
 | n+1,g,c,x11,x12,x13 =>
  bif decide (x13<x12) then((A4 x11 x13).bind fun v0 =>
  (As n (!(decide (v0.bus=c.bus) && (decide (v0.number=c.number) && (decide (v0.minute=c.minute) && (decide (v0.kind.n=c.kind.n) && (decide (v0.part=c.part) && (decide (v0.sg=c.sg) && true))))))) 6).bind fun v1 =>
  Sum.elim (fun v2=>AU n g c x11 x12 (IntKind.i64.wrap (x13+1))) (fun v2=>some (.inr (g,(c,(v2.fst,()))))) (v1)) else
  some (.inl (g,(c,((),((),())))))
def AY (n:Nat) (g:Aa) (c:Ap):Option ((Aa×Unit) ⊕ ((Aa×Av×Unit))) :=
 (AU n g c g.state.cards (↑g.state.cards.length:Int) 0).bind fun v0 =>
 Sum.elim (fun v1=>(DJ n v1.fst.state.cards v1.snd.fst).bind fun v2 =>
 (EB n v2.fst).bind fun v3 =>
 (Ce n v3.fst).bind fun v4 =>
 Sum.elim (fun v5=>some (.inl (Aa.mk (Ah.mk v2.fst v1.fst.state.outs v1.fst.state.runs v1.fst.state.records v1.fst.state.week v1.fst.state.roster),()))) (fun v5=>some (.inr (v1.fst,(v5.fst,())))) (v4)) (fun v1=>some (.inr (v1.fst,(v1.snd.snd.fst,())))) (v0)
def Zcd:List LB:=[fgarage_ask_b,Zd7,Zeb,ZbE]
def ZcL:CB Tryz.f258:=lp 2 [(0,.u 114),(3,.u 180),(11,.l 180),(12,.s 3),(13,.s 3)] 2 [⟨.exit 0,[.u 114,.u 180],[(0,.q 0),(3,.q 1)],[]⟩,⟨.pan,[.u 114,.u 180],[],[.i 234 (.g 234)]⟩] (u5 AU) Zcd []
def Zb5:LB:=lw Tryz.func258 [.u 114,.g 180] 1 [⟨.ret,[.u 114],[],[]⟩,⟨.pan,[.u 114],[],[.i 234 (.g 234)]⟩] (u2 AY) Zcd [ZcL]
def Cs (n:Nat) (g:Aa) (n_:List Int):Option ((Aa×Unit) ⊕ ((Aa×Av×Unit))) :=
 bif n_.length.beq 5 then((A4 n_ 0).bind fun v0 =>
 (n_.get?Internal (Int.toNat 0)).bind fun v1 =>
 bif n_.length.beq 5 then((A4 n_ 1).bind fun v2 =>
 (n_.get?Internal (Int.toNat 1)).bind fun v3 =>
 bif n_.length.beq 5 then((A4 n_ 2).bind fun v4 =>
 (n_.get?Internal (Int.toNat 2)).bind fun v5 =>
 bif n_.length.beq 5 then((A4 n_ 3).bind fun v6 =>
 (n_.get?Internal (Int.toNat 3)).bind fun v7 =>
 (AY n g (Ap.mk v1 v3 v5 (IK.mk 0) v7 0)).bind fun v8 =>
 Sum.elim (fun v9=>some (.inl (v9.fst,()))) (fun v9=>some (.inr (v9.fst,(v9.snd.fst,())))) (v8)) else
 none) else
 none) else
 none) else
 none
def fgarage_session_found_b:LB:=lw Tryz.func189 [.u 114,.v 3] 1 [⟨.ret,[.u 114],[],[]⟩,⟨.pan,[.u 114],[],[.i 234 (.g 234)]⟩] (u2 Cs) [Zb5] []
def C5 (n:Nat) (g:Aa) (n_:List Int):Option ((Aa×Unit) ⊕ ((Aa×Av×Unit))) :=
 bif n_.length.beq 5 then((A4 n_ 0).bind fun v0 =>
 (n_.get?Internal (Int.toNat 0)).bind fun v1 =>
 bif n_.length.beq 5 then((A4 n_ 1).bind fun v2 =>
 (n_.get?Internal (Int.toNat 1)).bind fun v3 =>
 bif n_.length.beq 5 then((A4 n_ 2).bind fun v4 =>
 (n_.get?Internal (Int.toNat 2)).bind fun v5 =>
 bif n_.length.beq 5 then((A4 n_ 3).bind fun v6 =>
 (n_.get?Internal (Int.toNat 3)).bind fun v7 =>
 (AY n g (Ap.mk v1 v3 v5 (IK.mk 1) v7 0)).bind fun v8 =>
 Sum.elim (fun v9=>some (.inl (v9.fst,()))) (fun v9=>some (.inr (v9.fst,(v9.snd.fst,())))) (v8)) else
 none) else
 none) else
 none) else
 none
def fgarage_session_held_b:LB:=lw Tryz.func190 [.u 114,.v 3] 1 [⟨.ret,[.u 114],[],[]⟩,⟨.pan,[.u 114],[],[.i 234 (.g 234)]⟩] (u2 C5) [Zb5] []
def Cf (n:Nat) (g:Aa) (n_:List Int):Option ((Aa×Unit) ⊕ ((Aa×Av×Unit))) :=
 bif n_.length.beq 5 then((A4 n_ 0).bind fun v0 =>
 (n_.get?Internal (Int.toNat 0)).bind fun v1 =>
 bif n_.length.beq 5 then((A4 n_ 1).bind fun v2 =>
 (n_.get?Internal (Int.toNat 1)).bind fun v3 =>
 bif n_.length.beq 5 then((A4 n_ 2).bind fun v4 =>
 (n_.get?Internal (Int.toNat 2)).bind fun v5 =>
 bif n_.length.beq 5 then((A4 n_ 3).bind fun v6 =>
 (n_.get?Internal (Int.toNat 3)).bind fun v7 =>
 (AY n g (Ap.mk v1 v3 v5 (IK.mk 2) 0 v7)).bind fun v8 =>
 Sum.elim (fun v9=>some (.inl (v9.fst,()))) (fun v9=>some (.inr (v9.fst,(v9.snd.fst,())))) (v8)) else
 none) else
 none) else
 none) else
 none
def fgarage_session_signed_b:LB:=lw Tryz.func191 [.u 114,.v 3] 1 [⟨.ret,[.u 114],[],[]⟩,⟨.pan,[.u 114],[],[.i 234 (.g 234)]⟩] (u2 Cf) [Zb5] []
def BL (n:Nat) (g:Aa) (n_:List Int):Option ((Aa×Unit) ⊕ ((Aa×Av×Unit))) :=
 bif n_.length.beq 5 then((A4 n_ 0).bind fun v0 =>
 (n_.get?Internal (Int.toNat 0)).bind fun v1 =>
 bif n_.length.beq 5 then((A4 n_ 1).bind fun v2 =>
 (n_.get?Internal (Int.toNat 1)).bind fun v3 =>
 bif n_.length.beq 5 then((A4 n_ 2).bind fun v4 =>
 (n_.get?Internal (Int.toNat 2)).bind fun v5 =>
 (AY n g (Ap.mk v1 v3 v5 (IK.mk 3) 0 0)).bind fun v6 =>
 Sum.elim (fun v7=>some (.inl (v7.fst,()))) (fun v7=>some (.inr (v7.fst,(v7.snd.fst,())))) (v6)) else
 none) else
 none) else
 none
def fgarage_session_checked_b:LB:=lw Tryz.func192 [.u 114,.v 3] 1 [⟨.ret,[.u 114],[],[]⟩,⟨.pan,[.u 114],[],[.i 234 (.g 234)]⟩] (u2 BL) [Zb5] []
def Bi (n:Nat) (n_:Int) (low:Int) (high:Int):Option ((Bool×Unit)) :=
 bif decide (low≤n_) then(some (decide (n_≤high),())) else
 some (false,())
def ZbL:LB:=lw Tryz.func75 [.s 3,.s 3,.s 3] 0 (rt [.s 4]) (u3 Bi) [] []
def MG:Nat→Int→Int→(List Jk)→Int→Int→Option ((Int×Unit))
 | 0,_,_,_,_,_=>none
 | n+1,bus,at_,x12,x13,x14 =>
  bif decide (x14<x13) then((A4 x12 x14).bind fun v0 =>
  bif decide (v0.bus=bus) then(some (x14,())) else
  MG n bus at_ x12 x13 (IntKind.i64.wrap (x14+1))) else
  some (at_,())
def R8 (n:Nat) (g:Aa) (bus:Int):Option ((Aa×Int×Unit)) :=
 (MG n bus (-1) g.state.outs (↑g.state.outs.length:Int) 0).bind fun v0 =>
 some (g,(v0.fst,()))
def Zfo:CB Tryz.f94:=lp 3 [(1,.s 3),(5,.s 3),(12,.l 60),(13,.s 3),(14,.s 3)] 0 [⟨.exit 0,[],[(5,.s 3)],[]⟩] (u5 MG) [] []
def Zeu:LB:=lw Tryz.func94 [.u 114,.s 3] 1 [⟨.ret,[.u 114],[],[.s 3]⟩] (u2 R8) [] [Zfo]
def BF:List (Nat×C):=[(0,.y 0 69 [5,6,7] [.p 0 [.s 3],.p 0 [.o 3],.p 0 [.f 109 [.p 0 [.m 3 180,.l 3]] []]]),(1,.p 0 [.q 4]),(2,.p 0 [.s 3]),(10,.l 3),(11,.s 3),(12,.s 3)]
def DV:List Wo:=[⟨.exit 0,[.y 0 69 [5,6,7] [.p 0 [.s 3],.p 0 [.o 3],.p 0 [.f 109 [.p 0 [.m 3 180,.l 3]] []]],.q 1,.q 2,.q 3,.q 4,.q 5,.p 0 [.q 4],.p 0 [.s 3]],[],[]⟩,⟨.ret,[.y 0 69 [5,6,7] [.p 0 [.s 3],.p 0 [.o 3],.p 0 [.f 109 [.p 0 [.m 3 180,.l 3]] []]],.q 1,.q 2,.q 3,.q 4,.q 5,.p 0 [.q 4],.p 0 [.s 3]],[],[]⟩]
def AB:Nat→Int→(List Int)→(List (Int×Ap))→(List Int)→Int→(List Int)→Int→Int→Option ((((Int×Unit)×(List Int×Unit)×(((((List (Int×Ap))×List Int×Unit)×Unit)×Unit)×Unit)×Unit)×Unit×Unit×Unit×Unit×Unit×(Unit×Unit)×(Int×Unit)×Unit) ⊕ ((((Int×Unit)×(List Int×Unit)×(((((List (Int×Ap))×List Int×Unit)×Unit)×Unit)×Unit)×Unit)×Unit×Unit×Unit×Unit×Unit×(Unit×Unit)×(Int×Unit)×Unit)))
 | 0,_,_,_,_,_,_,_,_=>none
 | n+1,yield1,yield2,yield3,yield4,x2,x10,x11,x12 =>
  bif decide (x12<x11) then((A4 x10 x12).bind fun v0 =>
  bif decide ((AN DO yield3 v0 (Ap.mk 0 0 0 (IK.mk 0) 0 0)).bus=x2) then(bif !decide ((AN DO yield3 v0 (Ap.mk 0 0 0 (IK.mk 0) 0 0)).kind.n=0) then(bif decide ((AN DO yield3 v0 (Ap.mk 0 0 0 (IK.mk 0) 0 0)).kind.n=1) then((Yx n yield3 yield4 (AN DO yield3 v0 (Ap.mk 0 0 0 (IK.mk 0) 0 0)) yield1).bind fun v1 =>
  bif v1.snd.snd.fst then((app yield2 [(AN DO yield3 v0 (Ap.mk 0 0 0 (IK.mk 0) 0 0)).number]).bind fun v2 =>
  AB n yield1 v2 v1.fst.fst v1.fst.snd.fst x2 x10 x11 (IntKind.i64.wrap (x12+1))) else
  AB n yield1 yield2 v1.fst.fst v1.fst.snd.fst x2 x10 x11 (IntKind.i64.wrap (x12+1))) else
  AB n yield1 yield2 yield3 yield4 x2 x10 x11 (IntKind.i64.wrap (x12+1))) else
  (Yx n yield3 yield4 (AN DO yield3 v0 (Ap.mk 0 0 0 (IK.mk 0) 0 0)) yield1).bind fun v1 =>
  bif v1.snd.snd.fst then((app yield2 [(AN DO yield3 v0 (Ap.mk 0 0 0 (IK.mk 0) 0 0)).number]).bind fun v2 =>
  AB n yield1 v2 v1.fst.fst v1.fst.snd.fst x2 x10 x11 (IntKind.i64.wrap (x12+1))) else
  AB n yield1 yield2 v1.fst.fst v1.fst.snd.fst x2 x10 x11 (IntKind.i64.wrap (x12+1))) else
  AB n yield1 yield2 yield3 yield4 x2 x10 x11 (IntKind.i64.wrap (x12+1))) else
  some (.inl (((yield1,()),((yield2,()),(((((yield3,(yield4,())),()),()),()),()))),((),((),((),((),((),(((),()),((x2,()),())))))))))
def C6 (n:Nat) (y:C.Ds Ty (A9 BF)):Option (YT Ty DV):=AB n y.1.1.1 y.1.2.1.1 y.1.2.2.1.1.1.1.1 y.1.2.2.1.1.1.1.2.1 y.2.2.1.1 y.2.2.2.1 y.2.2.2.2.1 y.2.2.2.2.2.1
def ZbD (n:Nat):St Ty→Tr (Lf Ty):=K4 BF 8 DV (C6 n)
def EC (n:Nat) (b1:List (Int×Ap)) (b2:List Int) (bus:Int) (at_:Int):Option ((((List (Int×Ap))×List Int×Unit)×Unit×List Int×Unit)) :=
 (AB n at_ [] b1 b2 bus b2 (↑b2.length:Int) 0).bind fun v0 =>
 Sum.elim (fun v1=>some ((v1.fst.snd.snd.fst.fst.fst.fst.fst,(v1.fst.snd.snd.fst.fst.fst.fst.snd.fst,())),((),(v1.fst.snd.fst.fst,())))) (fun v1=>some ((v1.fst.snd.snd.fst.fst.fst.fst.fst,(v1.fst.snd.snd.fst.fst.fst.fst.snd.fst,())),((),(v1.fst.snd.fst.fst,())))) (v0)
def Zfw:LB:=⟨109,ZeK,Wg⟩
def Zb7:List LB:=[Zfw]
def ZcG (n:Nat):EG Ty:=[]
def Zca (n:Nat):List (Nat×FQ Ty):=(An,AeO Tryz.prog (BJ Tryz.prog ((Ow Zb7 n)) []) (A0 []) (A0 (ZcG n)) 69)::(Ow Zb7 n)
theorem Gm (n:Nat):JF Tryz.prog (Zca n):=⟨Xp Ae Aj (A3 Ae Aj ((Dq Zb7 n)) Eu) (fun _ _ _ h=>by cases h) (Ay (fn:=Tryz.f69) (c:=(RFs.rf 69).body) (N:=(RFs.rf 69).n) (L:=ZcG n) (ks:=[]) trivial (by kernel_rfl) (by kernel_rfl)),Dq Zb7 n⟩
def Zcu (n:Nat):EG Ty:=[]
theorem Jf (n:Nat) (x:C.Ds Ty (A9 BF)):(Cv Tryz.prog 37 (BJ Tryz.prog (Zca n) []) (A0 (Zcu n)) (BR 1 Tryz.f163) (Bp BF x)).runK (EE 8 BF DV (C6 n))=C6 (n+1) x:=by kernel_rfl
theorem Jg (n:Nat):Bm true Tryz.prog 37 (ZbD n) (.loop (BR 1 Tryz.f163)):=FO fun x y hy=>DR (Fn:=C6) Ae Aj (fun n=>A3 Ae Aj (Gm n) Eu) (fun h=>by cases h) (fun h=>by cases h) (fun n=>(Ay (fn:=Tryz.f163) (L:=Zcu n) (ks:=[]) trivial (by kernel_rfl) (by kernel_rfl))) (by decide) (fun _=>rfl) Jf hy
def ZcH (n:Nat):Je Ty:=[(163,[(.loop 1,ZbD n)])]
theorem K5 (n:Nat):Gl Tryz.prog (ZcH n):=⟨DG (f:=163) Tryz.func163 rfl (Ay (fn:=Tryz.f163) (L:=[(.loop 1,ZbD n)]) (ks:=[.loop 1]) ⟨Jg n,trivial⟩ (by kernel_rfl) (by kernel_rfl)),trivial⟩
def ZcD (n:Nat):St Ty→Tr (Lf Ty):=Aeu Tryz.prog (BJ Tryz.prog (Zca n) (ZcH n)) (.tmp 13) 69 [5,6,7]
theorem JP (n:Nat):Bm true Tryz.prog 25 (ZcD n) (DT (.rf 4) Tryz.f69):=Xs (A3 Ae Aj (Gm n) (K5 n)) (by kernel_rfl) (by kernel_rfl)
def Zec:LB:=lw Tryz.func69 [.p 0 [.m 3 180,.l 3],.s 3,.s 3] 2 [⟨.ret,[.p 0 [.m 3 180,.l 3],.q 1],[],[.o 3]⟩] (fun n y=>EC n y.1.1 y.1.2.1 y.2.1 y.2.2.1) Zb7 [⟨.rf 4,fun n=>ZcD n,fun n=>JP n⟩]
def Cx (n:Nat) (l:List Ap) (bus:Int) (at_:Int):Option ((List Int×Int×Unit)) :=
 (Ia n l).bind fun v0 =>
 Sum.elim (fun v1=>bif v1.snd.fst != 0 then(some ([],(v1.snd.fst,()))) else
 bif decide (0≤bus) then(bif !!decide (bus≤99) then(bif decide (0≤at_) then(bif !decide (at_≤1000000) then(some ([],(2,()))) else
 none) else
 some ([],(2,()))) else
 some ([],(2,()))) else
 some ([],(2,()))) (fun v1=>bif v1.snd.fst != 0 then(some ([],(v1.snd.fst,()))) else
 bif decide (0≤bus) then(bif !!decide (bus≤99) then(bif decide (0≤at_) then(bif !decide (at_≤1000000) then(some ([],(2,()))) else
 (EC n v1.fst.fst v1.fst.snd.fst bus at_).bind fun v2 =>
 some (v2.snd.snd.fst,(0,()))) else
 some ([],(2,()))) else
 some ([],(2,()))) else
 some ([],(2,()))) (v0)
def Zdd:LB:=lw Tryz.func29 [.l 180,.s 3,.s 3] 0 (rt [.l 3,.s 3]) (u3 Cx) [Zel,Zec] []
def Di (n:Nat) (l:List Jk) (x:Jk):Option ((List Jk×Unit)) :=
 (ID n l).bind fun v0 =>
 (app v0.fst [x]).bind fun v1 =>
 some (v1,())
def ZeM:LB:=⟨262,Zeg,R4⟩
def ZdQ:LB:=lw Tryz.func260 [.l 60,.g 60] 0 (rt [.l 60]) (u2 Di) [ZeM] []
def A1:Nat→Aa→Int→Int→(List I9)→Int→Int→Option ((Aa×Unit×Int×Int×Unit) ⊕ ((Aa×Av×Unit)))
 | 0,_,_,_,_,_,_=>none
 | n+1,g,bus,at_,x30,x31,x32 =>
  bif decide (x32<x31) then((A4 x30 x32).bind fun v0 =>
  bif !v0.bus != bus then((As n (decide (v0.to_≤at_)) 8).bind fun v1 =>
  Sum.elim (fun v2=>A1 n g bus at_ x30 x31 (IntKind.i64.wrap (x32+1))) (fun v2=>some (.inr (g,(v2.fst,())))) (v1)) else
  (As n true 8).bind fun v1 =>
  Sum.elim (fun v2=>A1 n g bus at_ x30 x31 (IntKind.i64.wrap (x32+1))) (fun v2=>some (.inr (g,(v2.fst,())))) (v1)) else
  some (.inl (g,((),(bus,(at_,())))))
def BT (n:Nat) (g:Aa) (n_:List Int):Option ((Aa×Unit) ⊕ ((Aa×Av×Unit))) :=
 bif n_.length.beq 5 then((A4 n_ 0).bind fun v0 =>
 (n_.get?Internal (Int.toNat 0)).bind fun v1 =>
 bif n_.length.beq 5 then((A4 n_ 1).bind fun v2 =>
 (n_.get?Internal (Int.toNat 1)).bind fun v3 =>
 (Bi n v1 0 99).bind fun v4 =>
 bif v4.fst then((Bi n v3 0 1000000).bind fun v5 =>
 (As n v5.fst 2).bind fun v6 =>
 Sum.elim (fun v7=>(R8 n g v1).bind fun v8 =>
 (As n (decide (v8.snd.fst<0)) 8).bind fun v9 =>
 Sum.elim (fun v10=>(A1 n v8.fst v1 v3 v8.fst.state.runs (↑v8.fst.state.runs.length:Int) 0).bind fun v11 =>
 Sum.elim (fun v12=>(Cx n v12.fst.state.cards v12.snd.snd.fst v12.snd.snd.snd.fst).bind fun v13 =>
 (Ce n v13.snd.fst).bind fun v14 =>
 Sum.elim (fun v15=>(As n (decide ((↑v13.fst.length:Int)=0)) 11).bind fun v16 =>
 Sum.elim (fun v17=>(Di n v12.fst.state.outs (Jk.mk v12.snd.snd.fst v12.snd.snd.snd.fst)).bind fun v18 =>
 some (.inl (Aa.mk (Ah.mk v12.fst.state.cards v18.fst v12.fst.state.runs v12.fst.state.records v12.fst.state.week v12.fst.state.roster),()))) (fun v17=>some (.inr (v12.fst,(v17.fst,())))) (v16)) (fun v15=>some (.inr (v12.fst,(v15.fst,())))) (v14)) (fun v12=>some (.inr (v12.fst,(v12.snd.fst,())))) (v11)) (fun v10=>some (.inr (v8.fst,(v10.fst,())))) (v9)) (fun v7=>some (.inr (g,(v7.fst,())))) (v6)) else
 (As n false 2).bind fun v5 =>
 Sum.elim (fun v6=>(R8 n g v1).bind fun v7 =>
 (As n (decide (v7.snd.fst<0)) 8).bind fun v8 =>
 Sum.elim (fun v9=>(A1 n v7.fst v1 v3 v7.fst.state.runs (↑v7.fst.state.runs.length:Int) 0).bind fun v10 =>
 Sum.elim (fun v11=>(Cx n v11.fst.state.cards v11.snd.snd.fst v11.snd.snd.snd.fst).bind fun v12 =>
 (Ce n v12.snd.fst).bind fun v13 =>
 Sum.elim (fun v14=>(As n (decide ((↑v12.fst.length:Int)=0)) 11).bind fun v15 =>
 Sum.elim (fun v16=>(Di n v11.fst.state.outs (Jk.mk v11.snd.snd.fst v11.snd.snd.snd.fst)).bind fun v17 =>
 some (.inl (Aa.mk (Ah.mk v11.fst.state.cards v17.fst v11.fst.state.runs v11.fst.state.records v11.fst.state.week v11.fst.state.roster),()))) (fun v16=>some (.inr (v11.fst,(v16.fst,())))) (v15)) (fun v14=>some (.inr (v11.fst,(v14.fst,())))) (v13)) (fun v11=>some (.inr (v11.fst,(v11.snd.fst,())))) (v10)) (fun v9=>some (.inr (v7.fst,(v9.fst,())))) (v8)) (fun v6=>some (.inr (g,(v6.fst,())))) (v5)) else
 none) else
 none
def Zcj:List LB:=[ZbL,fgarage_ask_b,Zeu,Zdd,ZbE,ZdQ]
def ZcQ:CB Tryz.f193:=lp 5 [(0,.u 114),(4,.s 3),(5,.s 3),(30,.l 62),(31,.s 3),(32,.s 3)] 1 [⟨.exit 0,[.u 114],[(0,.q 0),(4,.s 3),(5,.s 3)],[]⟩,⟨.pan,[.u 114],[],[.i 234 (.g 234)]⟩] (u6 A1) Zcj []
def fgarage_session_out_b:LB:=lw Tryz.func193 [.u 114,.v 3] 1 [⟨.ret,[.u 114],[],[]⟩,⟨.pan,[.u 114],[],[.i 234 (.g 234)]⟩] (u2 BT) Zcj [ZcQ]
def Dj (n:Nat) (l:List I9) (x:I9):Option ((List I9×Unit)) :=
 (TZ n l).bind fun v0 =>
 (app v0.fst [x]).bind fun v1 =>
 some (v1,())
def Zfp:LB:=⟨310,Zeh,R5⟩
def ZdR:LB:=lw Tryz.func263 [.l 62,.g 62] 0 (rt [.l 62]) (u2 Dj) [Zfp] []
def Co (n:Nat) (g:Aa) (n_:List Int):Option ((Aa×Unit) ⊕ ((Aa×Av×Unit))) :=
 bif n_.length.beq 5 then((A4 n_ 0).bind fun v0 =>
 (n_.get?Internal (Int.toNat 0)).bind fun v1 =>
 (R8 n g v1).bind fun v2 =>
 (As n (decide (v2.snd.fst≥0)) 8).bind fun v3 =>
 Sum.elim (fun v4=>(A4 v2.fst.state.outs v2.snd.fst).bind fun v5 =>
 bif n_.length.beq 5 then((A4 n_ 1).bind fun v6 =>
 (n_.get?Internal (Int.toNat 1)).bind fun v7 =>
 (Bi n v7 v5.fr 1000000).bind fun v8 =>
 bif v8.fst then(bif n_.length.beq 5 then((A4 n_ 2).bind fun v9 =>
 (n_.get?Internal (Int.toNat 2)).bind fun v10 =>
 (Bi n v10 0 1000).bind fun v11 =>
 (As n v11.fst 2).bind fun v12 =>
 Sum.elim (fun v13=>(ID n v2.fst.state.outs).bind fun v14 =>
 (Ub n v14.fst v2.snd.fst (IntKind.i64.wrap (v2.snd.fst+1))).bind fun v15 =>
 bif n_.length.beq 5 then((A4 n_ 1).bind fun v16 =>
 (n_.get?Internal (Int.toNat 1)).bind fun v17 =>
 bif n_.length.beq 5 then((A4 n_ 2).bind fun v18 =>
 (n_.get?Internal (Int.toNat 2)).bind fun v19 =>
 (Dj n v2.fst.state.runs (I9.mk v5.bus v5.fr v17 v19)).bind fun v20 =>
 some (.inl (Aa.mk (Ah.mk v2.fst.state.cards v15.fst v20.fst v2.fst.state.records v2.fst.state.week v2.fst.state.roster),()))) else
 none) else
 none) (fun v13=>some (.inr (v2.fst,(v13.fst,())))) (v12)) else
 none) else
 (As n false 2).bind fun v9 =>
 Sum.elim (fun v10=>(ID n v2.fst.state.outs).bind fun v11 =>
 (Ub n v11.fst v2.snd.fst (IntKind.i64.wrap (v2.snd.fst+1))).bind fun v12 =>
 bif n_.length.beq 5 then((A4 n_ 1).bind fun v13 =>
 (n_.get?Internal (Int.toNat 1)).bind fun v14 =>
 bif n_.length.beq 5 then((A4 n_ 2).bind fun v15 =>
 (n_.get?Internal (Int.toNat 2)).bind fun v16 =>
 (Dj n v2.fst.state.runs (I9.mk v5.bus v5.fr v14 v16)).bind fun v17 =>
 some (.inl (Aa.mk (Ah.mk v2.fst.state.cards v12.fst v17.fst v2.fst.state.records v2.fst.state.week v2.fst.state.roster),()))) else
 none) else
 none) (fun v10=>some (.inr (v2.fst,(v10.fst,())))) (v9)) else
 none) (fun v4=>some (.inr (v2.fst,(v4.fst,())))) (v3)) else
 none
def Zfs:LB:=⟨261,Zet,Uc⟩
def fgarage_session_in_b:LB:=lw Tryz.func194 [.u 114,.v 3] 1 [⟨.ret,[.u 114],[],[]⟩,⟨.pan,[.u 114],[],[.i 234 (.g 234)]⟩] (u2 Co) [Zeu,fgarage_ask_b,ZbL,ZeM,Zfs,ZdR] []
def AV:Nat→(List Ab)→Ab→Int→Int→Option ((Ab×Unit) ⊕ ((Ab×Int×Unit)))
 | 0,_,_,_,_=>none
 | n+1,s,v,x7,x8 =>
  bif decide (x8<x7) then((A4 s x8).bind fun v0 =>
  bif decide (v.machine=v0.machine) && (decide (v.seq=v0.seq) && (decide (v.minute=v0.minute) && (decide (v.kind.n=v0.kind.n) && (decide (v.a=v0.a) && (decide (v.b=v0.b) && true))))) then(some (.inr (v,(x8,())))) else
  AV n s v x7 (IntKind.i64.wrap (x8+1))) else
  some (.inl (v,()))
def DW (n:Nat) (s:List Ab) (v:Ab):Option ((Int×Unit)) :=
 (AV n s v (↑s.length:Int) 0).bind fun v0 =>
 Sum.elim (fun v1=>some (-1,())) (fun v1=>some (v1.snd.fst,())) (v0)
def ZcM:CB Tryz.f341:=lp 2 [(0,.l 93),(3,.u 93),(7,.s 3),(8,.s 3)] 1 [⟨.exit 0,[.u 93],[],[]⟩,⟨.ret,[.u 93],[(4,.s 3)],[]⟩] (u4 AV) [] []
def Zde:LB:=(lw Tryz.func341 [.l 93,.g 93] 0 (rt [.s 3]) (u2 DW) [] [ZcM]).rd
def BM (n:Nat) (s:List Ab) (v:Ab):Option ((Bool×Unit)) :=
 (DW n s v).bind fun v0 =>
 some (decide (v0.fst≥0),())
def ZcN:LB:=(lw Tryz.func311 [.l 93,.g 93] 0 (rt [.s 4]) (u2 BM) [Zde] []).rd
def BU (n:Nat) (r:Ab):Option ((Bool×Unit)) :=
 bif decide (0≤r.machine) then(bif decide (r.machine≤999) then(bif decide (1≤r.seq) then(bif decide (r.seq≤9999) then(bif decide (0≤r.minute) then(bif decide (r.minute≤1000000) then(bif decide (IntKind.i64.wrap r.kind.n<(↑[EU.mk (Fp.mk (↑302:Int)),EU.mk (Fp.mk (↑303:Int)),EU.mk (Fp.mk (↑304:Int))].length:Int)) then((A4 [EU.mk (Fp.mk (↑302:Int)),EU.mk (Fp.mk (↑303:Int)),EU.mk (Fp.mk (↑304:Int))] r.kind.n).bind fun v0 =>
 ([EU.mk (Fp.mk (↑302:Int)),EU.mk (Fp.mk (↑303:Int)),EU.mk (Fp.mk (↑304:Int))].get?Internal r.kind.n.toNat).bind fun v1 =>
 bif decide (v1.right.f=(↑302:Int)) then(bif decide (0≤r.a) then(bif decide (r.a≤99) then(bif decide (0≤r.b) then(some (decide (r.b≤10000),())) else
 some (false,())) else
 some (false,())) else
 some (false,())) else
 bif decide (v1.right.f=(↑303:Int)) then(bif decide (0≤r.a) then(bif decide (r.a≤1000000) then(some (decide (r.b=0),())) else
 some (false,())) else
 some (false,())) else
 bif decide (v1.right.f=(↑304:Int)) then(bif decide (0≤r.a) then(bif decide (r.a≤9999) then(bif decide (0≤r.b) then(some (decide (r.b≤10000000),())) else
 some (false,())) else
 some (false,())) else
 some (false,())) else
 none) else
 some (false,())) else
 some (false,())) else
 some (false,())) else
 some (false,())) else
 some (false,())) else
 some (false,())) else
 some (false,())
def Zdi:LB:=lw Tryz.func186 [.g 93] 0 (rt [.s 4]) (u1 BU) [] []
def BV:List (Nat×C):=[(0,.l 28),(1,.f 246 [] [.p 0 [.f 183 [] []]]),(7,.s 3),(8,.s 3)]
def Ew:List Wo:=[⟨.exit 0,[.p 0 [.f 183 [] []]],[],[]⟩,⟨.ret,[.p 0 [.f 183 [] []]],[(4,.s 3)],[]⟩]
def BW:List (Nat×C):=[(0,.l 28),(1,.f 246 [] [.p 0 [.f 184 [] []]]),(7,.s 3),(8,.s 3)]
def Ey:List Wo:=[⟨.exit 0,[.p 0 [.f 184 [] []]],[],[]⟩,⟨.ret,[.p 0 [.f 184 [] []]],[(4,.s 3)],[]⟩]
def Ef:List (Nat×C):=[(0,.l 28)]
def FP:List Wo:=[⟨.ret,[],[],[.s 3]⟩]
def Bh:Nat→(List Ab)→Int→Int→Option ((((Unit×Unit)×Unit)×Unit) ⊕ ((((Unit×Unit)×Unit)×Int×Unit)))
 | 0,_,_,_=>none
 | n+1,s,x7,x8 =>
  bif decide (x8<x7) then((A4 s x8).bind fun v0 =>
  (BU n v0).bind fun v1 =>
  bif !v1.fst then(some (.inr ((((),()),()),(x8,())))) else
  Bh n s x7 (IntKind.i64.wrap (x8+1))) else
  some (.inl ((((),()),()),()))
def Bt:Nat→(List (List Ab))→Int→Int→Option ((((Unit×Unit)×Unit)×Unit) ⊕ ((((Unit×Unit)×Unit)×Int×Unit)))
 | 0,_,_,_=>none
 | n+1,s,x7,x8 =>
  bif decide (x8<x7) then((A4 s x8).bind fun v0 =>
  bif !decide ((↑v0.length:Int)≤60) then(some (.inr ((((),()),()),(x8,())))) else
  Bt n s x7 (IntKind.i64.wrap (x8+1))) else
  some (.inl ((((),()),()),()))
def CU (n:Nat) (y:C.Ds Ty (A9 BV)):Option (YT Ty Ew):=Bt n y.1 y.2.2.1 y.2.2.2.1
def ZbF (n:Nat):St Ty→Tr (Lf Ty):=K4 BV 1 Ew (CU n)
def AD:Nat→(List (List Ab))→Int→Int→Option ((((Unit×Unit)×Unit)×Unit) ⊕ ((((Unit×Unit)×Unit)×Int×Unit)))
 | 0,_,_,_=>none
 | n+1,s,x7,x8 =>
  bif decide (x8<x7) then((A4 s x8).bind fun v0 =>
  (Bh n v0 (↑v0.length:Int) 0).bind fun v1 =>
  Sum.elim (fun v2=>AD n s x7 (IntKind.i64.wrap (x8+1))) (fun v2=>bif !!decide (v2.snd.fst≥0) then(some (.inr ((((),()),()),(x8,())))) else
  AD n s x7 (IntKind.i64.wrap (x8+1))) (v1)) else
  some (.inl ((((),()),()),()))
def CV (n:Nat) (y:C.Ds Ty (A9 BW)):Option (YT Ty Ey):=AD n y.1 y.2.2.1 y.2.2.2.1
def ZbG (n:Nat):St Ty→Tr (Lf Ty):=K4 BW 1 Ey (CV n)
def Fo (n:Nat) (lists:List (List Ab)):Option ((Int×Unit)) :=
 bif !decide ((↑lists.length:Int)>6) then((Bt n lists (↑lists.length:Int) 0).bind fun v0 =>
 Sum.elim (fun v1=>(AD n lists (↑lists.length:Int) 0).bind fun v2 =>
 Sum.elim (fun v3=>some (0,())) (fun v3=>bif !!decide (v3.snd.fst≥0) then(some (1,())) else
 some (0,())) (v2)) (fun v1=>bif !!decide (v1.snd.fst≥0) then(some (3,())) else
 (AD n lists (↑lists.length:Int) 0).bind fun v2 =>
 Sum.elim (fun v3=>some (0,())) (fun v3=>bif !!decide (v3.snd.fst≥0) then(some (1,())) else
 some (0,())) (v2)) (v0)) else
 some (3,())
def Ib (n:Nat) (y:C.Ds Ty (A9 Ef)):Option (YT Ty FP):=Fo n y.1
def ZcE (n:Nat):FQ Ty:=QA (ET Ef 0 FP (Ib n))
def Zb2:List LB:=[Zdi]
def fsheet_checked_i1_b:CB Tryz.f301:=lp 2 [(0,.l 93),(1,.f 248 [] [.p 0 [.f 186 [] []]]),(7,.s 3),(8,.s 3)] 1 [⟨.exit 0,[.p 0 [.f 186 [] []]],[],[]⟩,⟨.ret,[.p 0 [.f 186 [] []]],[(4,.s 3)],[]⟩] (fun n y=>Bh n y.1 y.2.2.1 y.2.2.2.1) Zb2 []
def Zcb (n:Nat):Je Ty:=[(301,[(.loop 2,(fsheet_checked_i1_b.F n))])]
theorem Gn (n:Nat):Gl Tryz.prog (Zcb n):=⟨DG (f:=301) Tryz.func301 rfl (Ay (fn:=Tryz.f301) (L:=[(.loop 2,(fsheet_checked_i1_b.F n))]) (ks:=[.loop 2]) ⟨fsheet_checked_i1_b.ok n,trivial⟩ (by kernel_rfl) (by kernel_rfl)),trivial⟩
def Zc3 (n:Nat):EG Ty:=[]
theorem JQ (n:Nat) (x:C.Ds Ty (A9 BV)):(Cv Tryz.prog 19 (BJ Tryz.prog ((Ow Zb2 n)) (Zcb n)) (A0 (Zc3 n)) (BR 2 Tryz.f300) (Bp BV x)).runK (EE 1 BV Ew (CU n))=CU (n+1) x:=by kernel_rfl
theorem JR (n:Nat):Bm true Tryz.prog 19 (ZbF n) (.loop (BR 2 Tryz.f300)):=FO fun x y hy=>DR (Fn:=CU) Ae Aj (fun n=>A3 Ae Aj ((Dq Zb2 n)) (Gn n)) (fun h=>by cases h) (fun h=>by cases h) (fun n=>(Ay (fn:=Tryz.f300) (L:=Zc3 n) (ks:=[]) trivial (by kernel_rfl) (by kernel_rfl))) (by decide) (fun _=>rfl) JQ hy
def Zc4 (n:Nat):EG Ty:=[]
theorem JS (n:Nat) (x:C.Ds Ty (A9 BW)):(Cv Tryz.prog 19 (BJ Tryz.prog ((Ow Zb2 n)) (Zcb n)) (A0 (Zc4 n)) (BR 2 Tryz.f300) (Bp BW x)).runK (EE 1 BW Ey (CV n))=CV (n+1) x:=by kernel_rfl
theorem JT (n:Nat):Bm true Tryz.prog 19 (ZbG n) (.loop (BR 2 Tryz.f300)):=FO fun x y hy=>DR (Fn:=CV) Ae Aj (fun n=>A3 Ae Aj ((Dq Zb2 n)) (Gn n)) (fun h=>by cases h) (fun h=>by cases h) (fun n=>(Ay (fn:=Tryz.f300) (L:=Zc4 n) (ks:=[]) trivial (by kernel_rfl) (by kernel_rfl))) (by decide) (fun _=>rfl) JS hy
def ZcI (n:Nat):Je Ty:=[(301,[(.loop 2,(fsheet_checked_i1_b.F n))]),(300,[(.loop 2,AbA (ZbF n) (ZbG n))])]
theorem K6 (n:Nat):Gl Tryz.prog (ZcI n):=⟨DG (f:=301) Tryz.func301 rfl (Ay (fn:=Tryz.f301) (L:=[(.loop 2,(fsheet_checked_i1_b.F n))]) (ks:=[.loop 2]) ⟨fsheet_checked_i1_b.ok n,trivial⟩ (by kernel_rfl) (by kernel_rfl)),⟨DG (f:=300) Tryz.func300 rfl (Ay (fn:=Tryz.f300) (L:=[(.loop 2,AbA (ZbF n) (ZbG n))]) (ks:=[.loop 2]) ⟨Yl (JR n) (JT n),trivial⟩ (by kernel_rfl) (by kernel_rfl)),trivial⟩⟩
def ZcR (n:Nat):EG Ty:=[]
theorem MH (n:Nat) (x:C.Ds Ty (A9 Ef)):(Cv Tryz.prog 16 (BJ Tryz.prog ((Ow Zb2 n)) (ZcI n)) (A0 (ZcR n)) (Bs Tryz.f130) (Bp Ef x)).runK (Gj Tryz.prog Tryz.f130.results.toList 0 FP)=Ib n x:=by kernel_rfl
theorem JU (n:Nat):AX Tryz.prog 130 (ZcE n):=JK (H7 Tryz.func130 rfl rfl (by decide) rfl Ae Aj (A3 Ae Aj ((Dq Zb2 n)) (K6 n)) (Ay (fn:=Tryz.f130) (L:=ZcR n) (ks:=[]) trivial (by kernel_rfl) (by kernel_rfl)) (MH n))
def Ba:Nat→(List (FX×Ab))→(List Ab)→(List Ab)→Int→Int→Option (((List (FX×Ab))×List Ab×Unit) ⊕ (((List (FX×Ab))×List Ab×Int×Unit)))
 | 0,_,_,_,_,_=>none
 | n+1,known,out,x21,x22,x23 =>
  bif decide (x23<x22) then((A4 x21 x23).bind fun v0 =>
  bif Dm Ax known (FX.mk v0.machine v0.seq) then(bif !(decide ((AN Ax known (FX.mk v0.machine v0.seq) (Ab.mk 0 0 0 (IK.mk 0) 0 0)).machine=v0.machine) && (decide ((AN Ax known (FX.mk v0.machine v0.seq) (Ab.mk 0 0 0 (IK.mk 0) 0 0)).seq=v0.seq) && (decide ((AN Ax known (FX.mk v0.machine v0.seq) (Ab.mk 0 0 0 (IK.mk 0) 0 0)).minute=v0.minute) && (decide ((AN Ax known (FX.mk v0.machine v0.seq) (Ab.mk 0 0 0 (IK.mk 0) 0 0)).kind.n=v0.kind.n) && (decide ((AN Ax known (FX.mk v0.machine v0.seq) (Ab.mk 0 0 0 (IK.mk 0) 0 0)).a=v0.a) && (decide ((AN Ax known (FX.mk v0.machine v0.seq) (Ab.mk 0 0 0 (IK.mk 0) 0 0)).b=v0.b) && true)))))) then(some (.inr (known,([],(6,()))))) else
  bif !Dm Ax known (FX.mk v0.machine v0.seq) then((app out [v0]).bind fun v1 =>
  Ba n (Fe Ax known (FX.mk v0.machine v0.seq) v0) v1 x21 x22 (IntKind.i64.wrap (x23+1))) else
  Ba n known out x21 x22 (IntKind.i64.wrap (x23+1))) else
  bif !Dm Ax known (FX.mk v0.machine v0.seq) then((app out [v0]).bind fun v1 =>
  Ba n (Fe Ax known (FX.mk v0.machine v0.seq) v0) v1 x21 x22 (IntKind.i64.wrap (x23+1))) else
  Ba n known out x21 x22 (IntKind.i64.wrap (x23+1))) else
  some (.inl (known,(out,())))
def B7:Nat→(List Ab)→Int→Int→Option ((List Ab×Unit) ⊕ ((List Ab×Int×Unit)))
 | 0,_,_,_=>none
 | n+1,out,x57,x58 =>
  bif decide (x58<x57) then((A4 out x58).bind fun v0 =>
  (out.get?Internal x58.toNat).bind fun v1 =>
  bif decide (x58>0) then((A4 out (IntKind.i64.wrap (x58-1))).bind fun v2 =>
  (out.get?Internal (IntKind.i64.wrap (x58-1)).toNat).bind fun v3 =>
  bif decide (v3.machine=v1.machine) then((A4 out (IntKind.i64.wrap (x58-1))).bind fun v4 =>
  (out.get?Internal (IntKind.i64.wrap (x58-1)).toNat).bind fun v5 =>
  bif decide (v5.minute>v1.minute) then(some (.inr ([],(6,())))) else
  B7 n out x57 (IntKind.i64.wrap (x58+1))) else
  B7 n out x57 (IntKind.i64.wrap (x58+1))) else
  B7 n out x57 (IntKind.i64.wrap (x58+1))) else
  some (.inl (out,()))
def D7 (n:Nat) (lists:List (List Ab)):Option ((List Ab×Int×Unit)) :=
 (Fo n lists).bind fun v0 =>
 bif v0.fst != 0 then(some ([],(v0.fst,()))) else
 (ON n lists).bind fun v1 =>
 (Ba n [] [] v1.fst (↑v1.fst.length:Int) 0).bind fun v2 =>
 Sum.elim (fun v3=>(Z4 v3.snd.fst).bind fun v4 =>
 (B7 n v4 (↑v4.length:Int) 0).bind fun v5 =>
 Sum.elim (fun v6=>some (v6.fst,(0,()))) (fun v6=>some (v6.fst,(v6.snd.fst,()))) (v5)) (fun v3=>some (v3.snd.fst,(v3.snd.snd.fst,()))) (v2)
def Zem:LB:=⟨130,ZcE,JU⟩
def Zfx:LB:=⟨132,ZeH,Wd⟩
def Zcv:List LB:=[Zem,Zfn,Zfx]
def ZdS:CB Tryz.f81:=lp 7 [(5,.m 227 93),(6,.o 93),(21,.l 93),(22,.s 3),(23,.s 3)] 1 [⟨.exit 0,[.m 227 93],[(6,.o 93)],[]⟩,⟨.ret,[.m 227 93],[(2,.l 93),(3,.s 3)],[]⟩] (u5 Ba) Zcv []
def ZdT:CB Tryz.f81:=lp 19 [(6,.o 93),(56,.r 93 0),(57,.s 3),(58,.s 3)] 0 [⟨.exit 2,[],[(6,.o 93)],[]⟩,⟨.ret,[],[(2,.l 93),(3,.s 3)],[]⟩] (fun n y=>B7 n y.1 y.2.2.1 y.2.2.2.1) Zcv []
def Zda:LB:=lw Tryz.func81 [.l 28] 0 (rt [.l 93,.s 3]) (u1 D7) Zcv [ZdS,ZdT]
def Gz (n:Nat) (lists:List (List Ab)):Option ((List Ab×Int×Unit)) :=
 (D7 n lists).bind fun v0 =>
 bif v0.snd.fst != 0 then(some ([],(v0.snd.fst,()))) else
 bif decide ((↑v0.fst.length:Int)>60) then(some ([],(3,()))) else
 some (v0.fst,(0,()))
def Ze7:LB:=lw Tryz.func312 [.l 28] 0 (rt [.l 93,.s 3]) (u1 Gz) [Zda] []
def CW (n:Nat) (l:List Ab) (x:Ab):Option ((List Ab×Unit)) :=
 (Ua n l).bind fun v0 =>
 (app v0.fst [x]).bind fun v1 =>
 some (v1,())
def Zfq:LB:=⟨342,Zei,R6⟩
def Zdj:LB:=lw Tryz.func313 [.l 93,.g 93] 0 (rt [.l 93]) (u2 CW) [Zfq] []
def Bb (n:Nat) (g:Aa) (r:Ab):Option ((Aa×Unit) ⊕ ((Aa×Av×Unit))) :=
 (BM n g.state.records r).bind fun v0 =>
 (As n (!v0.fst) 6).bind fun v1 =>
 Sum.elim (fun v2=>(Gz n [g.state.records,[r]]).bind fun v3 =>
 (Ce n v3.snd.fst).bind fun v4 =>
 Sum.elim (fun v5=>(CW n g.state.records r).bind fun v6 =>
 some (.inl (Aa.mk (Ah.mk g.state.cards g.state.outs g.state.runs v6.fst g.state.week g.state.roster),()))) (fun v5=>some (.inr (g,(v5.fst,())))) (v4)) (fun v2=>some (.inr (g,(v2.fst,())))) (v1)
def Zb9:LB:=lw Tryz.func264 [.u 114,.g 93] 1 [⟨.ret,[.u 114],[],[]⟩,⟨.pan,[.u 114],[],[.i 234 (.g 234)]⟩] (u2 Bb) [ZcN,fgarage_ask_b,Ze7,ZbE,Zdj] []
def C7 (n:Nat) (g:Aa) (n_:List Int):Option ((Aa×Unit) ⊕ ((Aa×Av×Unit))) :=
 bif n_.length.beq 5 then((A4 n_ 0).bind fun v0 =>
 (n_.get?Internal (Int.toNat 0)).bind fun v1 =>
 bif n_.length.beq 5 then((A4 n_ 1).bind fun v2 =>
 (n_.get?Internal (Int.toNat 1)).bind fun v3 =>
 bif n_.length.beq 5 then((A4 n_ 2).bind fun v4 =>
 (n_.get?Internal (Int.toNat 2)).bind fun v5 =>
 bif n_.length.beq 5 then((A4 n_ 3).bind fun v6 =>
 (n_.get?Internal (Int.toNat 3)).bind fun v7 =>
 bif n_.length.beq 5 then((A4 n_ 4).bind fun v8 =>
 (n_.get?Internal (Int.toNat 4)).bind fun v9 =>
 (Bb n g (Ab.mk v1 v3 v5 (IK.mk 0) v7 v9)).bind fun v10 =>
 Sum.elim (fun v11=>some (.inl (v11.fst,()))) (fun v11=>some (.inr (v11.fst,(v11.snd.fst,())))) (v10)) else
 none) else
 none) else
 none) else
 none) else
 none
def fgarage_session_sale_b:LB:=lw Tryz.func195 [.u 114,.v 3] 1 [⟨.ret,[.u 114],[],[]⟩,⟨.pan,[.u 114],[],[.i 234 (.g 234)]⟩] (u2 C7) [Zb9] []
def C8 (n:Nat) (g:Aa) (n_:List Int):Option ((Aa×Unit) ⊕ ((Aa×Av×Unit))) :=
 bif n_.length.beq 5 then((A4 n_ 0).bind fun v0 =>
 (n_.get?Internal (Int.toNat 0)).bind fun v1 =>
 bif n_.length.beq 5 then((A4 n_ 1).bind fun v2 =>
 (n_.get?Internal (Int.toNat 1)).bind fun v3 =>
 bif n_.length.beq 5 then((A4 n_ 2).bind fun v4 =>
 (n_.get?Internal (Int.toNat 2)).bind fun v5 =>
 bif n_.length.beq 5 then((A4 n_ 3).bind fun v6 =>
 (n_.get?Internal (Int.toNat 3)).bind fun v7 =>
 (Bb n g (Ab.mk v1 v3 v5 (IK.mk 1) v7 0)).bind fun v8 =>
 Sum.elim (fun v9=>some (.inl (v9.fst,()))) (fun v9=>some (.inr (v9.fst,(v9.snd.fst,())))) (v8)) else
 none) else
 none) else
 none) else
 none
def fgarage_session_sync_b:LB:=lw Tryz.func196 [.u 114,.v 3] 1 [⟨.ret,[.u 114],[],[]⟩,⟨.pan,[.u 114],[],[.i 234 (.g 234)]⟩] (u2 C8) [Zb9] []
def Ct (n:Nat) (g:Aa) (n_:List Int):Option ((Aa×Unit) ⊕ ((Aa×Av×Unit))) :=
 bif n_.length.beq 5 then((A4 n_ 0).bind fun v0 =>
 (n_.get?Internal (Int.toNat 0)).bind fun v1 =>
 bif n_.length.beq 5 then((A4 n_ 1).bind fun v2 =>
 (n_.get?Internal (Int.toNat 1)).bind fun v3 =>
 bif n_.length.beq 5 then((A4 n_ 2).bind fun v4 =>
 (n_.get?Internal (Int.toNat 2)).bind fun v5 =>
 bif n_.length.beq 5 then((A4 n_ 3).bind fun v6 =>
 (n_.get?Internal (Int.toNat 3)).bind fun v7 =>
 bif n_.length.beq 5 then((A4 n_ 4).bind fun v8 =>
 (n_.get?Internal (Int.toNat 4)).bind fun v9 =>
 (Bb n g (Ab.mk v1 v3 v5 (IK.mk 2) v7 v9)).bind fun v10 =>
 Sum.elim (fun v11=>some (.inl (v11.fst,()))) (fun v11=>some (.inr (v11.fst,(v11.snd.fst,())))) (v10)) else
 none) else
 none) else
 none) else
 none) else
 none
def fgarage_session_close_b:LB:=lw Tryz.func197 [.u 114,.v 3] 1 [⟨.ret,[.u 114],[],[]⟩,⟨.pan,[.u 114],[],[.i 234 (.g 234)]⟩] (u2 Ct) [Zb9] []
def CX (n:Nat) (l:List AA) (x:AA):Option ((List AA×Unit)) :=
 (QR n l).bind fun v0 =>
 (app v0.fst [x]).bind fun v1 =>
 some (v1,())
def Zfk:LB:=⟨314,ZdM,QS⟩
def Zdk:LB:=lw Tryz.func265 [.l 186,.g 186] 0 (rt [.l 186]) (u2 CX) [Zfk] []
def C9 (n:Nat) (w:Aq) (d:AH):Option ((Bool×Unit)) :=
 bif decide (0≤d.day) then(bif decide (d.day≤IntKind.i64.wrap (w.days-1)) then(bif decide (0≤d.on) then(bif decide (d.on≤1439) then(bif decide (d.on≤d.off.lo) then(bif decide (d.off.lo≤d.off.hi) then(bif decide (d.off.hi≤IntKind.i64.wrap (d.on+1440)) then(bif decide (0≤d.route) then(some (decide (d.route≤15),())) else
 some (false,())) else
 some (false,())) else
 some (false,())) else
 some (false,())) else
 some (false,())) else
 some (false,())) else
 some (false,())) else
 some (false,())
def Zd8:LB:=lw Tryz.func116 [.g 32,.g 184] 0 (rt [.s 4]) (u2 C9) [] []
def Eg:Nat→(List Int)→Int→Int→(List Int)→Int→Int→Option (Unit ⊕ ((Bool×Unit)))
 | 0,_,_,_,_,_,_=>none
 | n+1,l,low,high,x9,x10,x11 =>
  bif decide (x11<x10) then((A4 x9 x11).bind fun v0 =>
  bif decide (low≤v0) then(bif !!decide (v0≤high) then(bif decide (x11>0) then((A4 l (IntKind.i64.wrap (x11-1))).bind fun v1 =>
  bif decide (v0≤v1) then(some (.inr (false,()))) else
  Eg n l low high x9 x10 (IntKind.i64.wrap (x11+1))) else
  Eg n l low high x9 x10 (IntKind.i64.wrap (x11+1))) else
  some (.inr (false,()))) else
  some (.inr (false,()))) else
  some (.inl ())
def D8 (n:Nat) (l:List Int) (low:Int) (high:Int):Option ((Bool×Unit)) :=
 (Eg n l low high l (↑l.length:Int) 0).bind fun v0 =>
 Sum.elim (fun v1=>some (true,())) (fun v1=>some (v1.fst,())) (v0)
def ZdU:CB Tryz.f172:=lp 2 [(0,.l 3),(1,.s 3),(2,.s 3),(9,.l 3),(10,.s 3),(11,.s 3)] 0 [⟨.exit 0,[],[],[]⟩,⟨.ret,[],[(6,.s 4)],[]⟩] (u6 Eg) [] []
def Zev:LB:=(lw Tryz.func172 [.l 3,.s 3,.s 3] 0 (rt [.s 4]) (u3 D8) [] [ZdU]).rd
def BX (n:Nat) (w:Aq) (d:AA):Option ((Bool×Unit)) :=
 (D8 n d.knows 0 15).bind fun v0 =>
 bif v0.fst then((D8 n d.leave 0 (IntKind.i64.wrap (w.days-1))).bind fun v1 =>
 bif v1.fst then((D8 n d.wish 0 (IntKind.i64.wrap (w.days-1))).bind fun v2 =>
 bif v2.fst then(bif decide (-10080≤d.off) then(bif decide (d.off≤1440) then(bif decide (0≤d.row) then(bif decide (d.row≤14) then(bif decide (0≤d.used) then(some (decide (d.used≤w.hours),())) else
 some (false,())) else
 some (false,())) else
 some (false,())) else
 some (false,())) else
 some (false,())) else
 some (false,())) else
 some (false,())) else
 some (false,())
def Zdl:LB:=lw Tryz.func118 [.g 32,.g 186] 0 (rt [.s 4]) (u2 BX) [Zev] []
def Bu:List (Nat×C):=[(0,.l 186),(1,.f 171 [] [.p 0 [.f 118 [.g 32] []]]),(7,.s 3),(8,.s 3)]
def Dw:List Wo:=[⟨.exit 0,[.p 0 [.f 118 [.g 32] []]],[],[]⟩,⟨.ret,[.p 0 [.f 118 [.g 32] []]],[(4,.s 3)],[]⟩]
def CY:List (Nat×C):=[(0,.g 32)]
def Ez:List Wo:=[⟨.ret,[],[],[.s 3]⟩]
def AF:Nat→(List AH)→Aq→Int→Int→Option (((((Aq×Unit)×Unit)×Unit)×Unit) ⊕ (((((Aq×Unit)×Unit)×Unit)×Int×Unit)))
 | 0,_,_,_,_=>none
 | n+1,s,f,x7,x8 =>
  bif decide (x8<x7) then((A4 s x8).bind fun v0 =>
  (C9 n f v0).bind fun v1 =>
  bif !v1.fst then(some (.inr ((((f,()),()),()),(x8,())))) else
  AF n s f x7 (IntKind.i64.wrap (x8+1))) else
  some (.inl ((((f,()),()),()),()))
def AG:Nat→(List AA)→Aq→Int→Int→Option (((((Aq×Unit)×Unit)×Unit)×Unit) ⊕ (((((Aq×Unit)×Unit)×Unit)×Int×Unit)))
 | 0,_,_,_,_=>none
 | n+1,s,f,x7,x8 =>
  bif decide (x8<x7) then((A4 s x8).bind fun v0 =>
  (BX n f v0).bind fun v1 =>
  bif !v1.fst then(some (.inr ((((f,()),()),()),(x8,())))) else
  AG n s f x7 (IntKind.i64.wrap (x8+1))) else
  some (.inl ((((f,()),()),()),()))
def Cg (n:Nat) (y:C.Ds Ty (A9 Bu)):Option (YT Ty Dw):=AG n y.1 y.2.1.2.1.1.1.1 y.2.2.1 y.2.2.2.1
def ZbA (n:Nat):St Ty→Tr (Lf Ty):=K4 Bu 1 Dw (Cg n)
def BN (n:Nat) (w:Aq):Option ((Int×Unit)) :=
 bif !decide ((↑w.duties.length:Int)>12) then(bif decide ((↑w.drivers.length:Int)>6) then(some (3,())) else
 bif decide (1≤w.days) then(bif !!decide (w.days≤7) then(bif decide (0≤w.rest) then(bif !!decide (w.rest≤3000) then(bif decide (1≤w.run) then(bif !!decide (w.run≤14) then(bif decide (0≤w.hours) then(bif !decide (w.hours≤20000) then(some (1,())) else
 (AF n w.duties w (↑w.duties.length:Int) 0).bind fun v0 =>
 Sum.elim (fun v1=>(AG n w.drivers w (↑w.drivers.length:Int) 0).bind fun v2 =>
 Sum.elim (fun v3=>some (0,())) (fun v3=>bif !!decide (v3.snd.fst≥0) then(some (1,())) else
 some (0,())) (v2)) (fun v1=>bif !!!decide (v1.snd.fst≥0) then((AG n w.drivers w (↑w.drivers.length:Int) 0).bind fun v2 =>
 Sum.elim (fun v3=>some (0,())) (fun v3=>bif !!decide (v3.snd.fst≥0) then(some (1,())) else
 some (0,())) (v2)) else
 some (1,())) (v0)) else
 some (1,())) else
 some (1,())) else
 some (1,())) else
 some (1,())) else
 some (1,())) else
 some (1,())) else
 some (1,())) else
 some (3,())
def Gp (n:Nat) (y:C.Ds Ty (A9 CY)):Option (YT Ty Ez):=BN n y.1
def Zck (n:Nat):FQ Ty:=ET CY 0 Ez (Gp n)
def Zb3:List LB:=[Zd8,Zdl]
def froster_CheckWeek_i1_b:CB Tryz.f234:=lp 2 [(0,.l 184),(1,.f 169 [] [.p 0 [.f 116 [.g 32] []]]),(7,.s 3),(8,.s 3)] 1 [⟨.exit 0,[.p 0 [.f 116 [.g 32] []]],[],[]⟩,⟨.ret,[.p 0 [.f 116 [.g 32] []]],[(4,.s 3)],[]⟩] (fun n y=>AF n y.1 y.2.1.2.1.1.1.1 y.2.2.1 y.2.2.2.1) Zb3 []
def Zcw (n:Nat):Je Ty:=[(234,[(.loop 2,(froster_CheckWeek_i1_b.F n))])]
theorem IF (n:Nat):Gl Tryz.prog (Zcw n):=⟨DG (f:=234) Tryz.func234 rfl (Ay (fn:=Tryz.f234) (L:=[(.loop 2,(froster_CheckWeek_i1_b.F n))]) (ks:=[.loop 2]) ⟨froster_CheckWeek_i1_b.ok n,trivial⟩ (by kernel_rfl) (by kernel_rfl)),trivial⟩
def Zce (n:Nat):EG Ty:=[]
theorem Ic (n:Nat) (x:C.Ds Ty (A9 Bu)):(Cv Tryz.prog 19 (BJ Tryz.prog ((Ow Zb3 n)) (Zcw n)) (A0 (Zce n)) (BR 2 Tryz.f235) (Bp Bu x)).runK (EE 1 Bu Dw (Cg n))=Cg (n+1) x:=by kernel_rfl
theorem Ie (n:Nat):Bm true Tryz.prog 19 (ZbA n) (.loop (BR 2 Tryz.f235)):=FO fun x y hy=>DR (Fn:=Cg) Ae Aj (fun n=>A3 Ae Aj ((Dq Zb3 n)) (IF n)) (fun h=>by cases h) (fun h=>by cases h) (fun n=>(Ay (fn:=Tryz.f235) (L:=Zce n) (ks:=[]) trivial (by kernel_rfl) (by kernel_rfl))) (by decide) (fun _=>rfl) Ic hy
def Zcx (n:Nat):Je Ty:=[(234,[(.loop 2,(froster_CheckWeek_i1_b.F n))]),(235,[(.loop 2,ZbA n)])]
theorem IG (n:Nat):Gl Tryz.prog (Zcx n):=⟨DG (f:=234) Tryz.func234 rfl (Ay (fn:=Tryz.f234) (L:=[(.loop 2,(froster_CheckWeek_i1_b.F n))]) (ks:=[.loop 2]) ⟨froster_CheckWeek_i1_b.ok n,trivial⟩ (by kernel_rfl) (by kernel_rfl)),⟨DG (f:=235) Tryz.func235 rfl (Ay (fn:=Tryz.f235) (L:=[(.loop 2,ZbA n)]) (ks:=[.loop 2]) ⟨Ie n,trivial⟩ (by kernel_rfl) (by kernel_rfl)),trivial⟩⟩
def Zc5 (n:Nat):EG Ty:=[]
theorem JV (n:Nat) (x:C.Ds Ty (A9 CY)):(Cv Tryz.prog 52 (BJ Tryz.prog ((Ow Zb3 n)) (Zcx n)) (A0 (Zc5 n)) (Bs Tryz.f71) (Bp CY x)).runK (Gj Tryz.prog Tryz.f71.results.toList 0 Ez)=Gp n x:=by kernel_rfl
theorem Ig (n:Nat):AX Tryz.prog 71 (Zck n):=H7 Tryz.func71 rfl rfl (by decide) rfl Ae Aj (A3 Ae Aj ((Dq Zb3 n)) (IG n)) (Ay (fn:=Tryz.f71) (L:=Zc5 n) (ks:=[]) trivial (by kernel_rfl) (by kernel_rfl)) (JV n)
def Bv (n:Nat) (g:Aa) (n_:List Int):Option ((Aa×Unit) ⊕ ((Aa×Av×Unit))) :=
 bif n_.length.beq 5 then((A4 n_ 0).bind fun v0 =>
 (n_.get?Internal (Int.toNat 0)).bind fun v1 =>
 bif n_.length.beq 5 then((A4 n_ 1).bind fun v2 =>
 (n_.get?Internal (Int.toNat 1)).bind fun v3 =>
 (CX n g.state.week.drivers (AA.mk [v1] [] [] v3 0 0)).bind fun v4 =>
 (BN n (Aq.mk g.state.week.days g.state.week.duties v4.fst g.state.week.rest g.state.week.run g.state.week.hours)).bind fun v5 =>
 (Ce n v5.fst).bind fun v6 =>
 Sum.elim (fun v7=>some (.inl (Aa.mk (Ah.mk g.state.cards g.state.outs g.state.runs g.state.records (Aq.mk g.state.week.days g.state.week.duties v4.fst g.state.week.rest g.state.week.run g.state.week.hours) g.state.roster),()))) (fun v7=>some (.inr (g,(v7.fst,())))) (v6)) else
 none) else
 none
def ZbO:LB:=⟨71,Zck,Ig⟩
def fgarage_session_driver_b:LB:=lw Tryz.func198 [.u 114,.v 3] 1 [⟨.ret,[.u 114],[],[]⟩,⟨.pan,[.u 114],[],[.i 234 (.g 234)]⟩] (u2 Bv) [Zdk,ZbO,ZbE] []
def DK (n:Nat) (l:List AH) (x:AH):Option ((List AH×Unit)) :=
 (QT n l).bind fun v0 =>
 (app v0.fst [x]).bind fun v1 =>
 some (v1,())
def Zfl:LB:=⟨315,ZdN,QU⟩
def Zd9:LB:=lw Tryz.func266 [.l 184,.g 184] 0 (rt [.l 184]) (u2 DK) [Zfl] []
def Eh (n:Nat) (l:List Int) (x:Int):Option ((List Int×Unit)) :=
 (Lx n l).bind fun v0 =>
 (app v0.fst [x]).bind fun v1 =>
 some (v1,())
def ZeR:LB:=⟨268,Zes,TY⟩
def ZdV:LB:=lw Tryz.func267 [.l 3,.s 3] 0 (rt [.l 3]) (u2 Eh) [ZeR] []
def BG (n:Nat) (g:Aa) (n_:List Int):Option ((Aa×Unit) ⊕ ((Aa×Av×Unit))) :=
 bif n_.length.beq 5 then((A4 n_ 0).bind fun v0 =>
 (n_.get?Internal (Int.toNat 0)).bind fun v1 =>
 bif n_.length.beq 5 then((A4 n_ 1).bind fun v2 =>
 (n_.get?Internal (Int.toNat 1)).bind fun v3 =>
 bif n_.length.beq 5 then((A4 n_ 2).bind fun v4 =>
 (n_.get?Internal (Int.toNat 2)).bind fun v5 =>
 bif n_.length.beq 5 then((A4 n_ 3).bind fun v6 =>
 (n_.get?Internal (Int.toNat 3)).bind fun v7 =>
 bif n_.length.beq 5 then((A4 n_ 4).bind fun v8 =>
 (n_.get?Internal (Int.toNat 4)).bind fun v9 =>
 (DK n g.state.week.duties (AH.mk v1 v3 (Rg.mk v5 v7) v9)).bind fun v10 =>
 (BN n (Aq.mk g.state.week.days v10.fst g.state.week.drivers g.state.week.rest g.state.week.run g.state.week.hours)).bind fun v11 =>
 (Ce n v11.fst).bind fun v12 =>
 Sum.elim (fun v13=>(Eh n g.state.roster (-1)).bind fun v14 =>
 some (.inl (Aa.mk (Ah.mk g.state.cards g.state.outs g.state.runs g.state.records (Aq.mk g.state.week.days v10.fst g.state.week.drivers g.state.week.rest g.state.week.run g.state.week.hours) v14.fst),()))) (fun v13=>some (.inr (g,(v13.fst,())))) (v12)) else
 none) else
 none) else
 none) else
 none) else
 none
def fgarage_session_duty_b:LB:=lw Tryz.func199 [.u 114,.v 3] 1 [⟨.ret,[.u 114],[],[]⟩,⟨.pan,[.u 114],[],[.i 234 (.g 234)]⟩] (u2 BG) [Zd9,ZbO,ZbE,ZdV] []
def Cu:List (Nat×C):=[(0,.g 32),(1,.l 3)]
def DD:List Wo:=[⟨.ret,[],[],[.s 4]⟩]
def AI:Nat→(List Int)→Aq→Int→Int→Option ((((Unit×(Aq×Unit))×Unit)×Unit×Unit) ⊕ ((((Unit×(Aq×Unit))×Unit)×Unit×Int×Unit)))
 | 0,_,_,_,_=>none
 | n+1,s,f,x7,x8 =>
  bif decide (x8<x7) then((A4 s x8).bind fun v0 =>
  bif decide (-1≤v0) then(bif !decide (v0≤IntKind.i64.wrap ((↑f.drivers.length:Int)-1)) then(some (.inr ((((),(f,())),()),((),(x8,()))))) else
  AI n s f x7 (IntKind.i64.wrap (x8+1))) else
  some (.inr ((((),(f,())),()),((),(x8,()))))) else
  some (.inl ((((),(f,())),()),((),())))
def CZ (n:Nat) (w:Aq) (l:List Int):Option ((Bool×Unit)) :=
 bif decide ((↑l.length:Int)=(↑w.duties.length:Int)) then((AI n l w (↑l.length:Int) 0).bind fun v0 =>
 Sum.elim (fun v1=>some (!decide (-1≥0),())) (fun v1=>some (!decide (v1.snd.snd.fst≥0),())) (v0)) else
 some (false,())
def F9 (n:Nat) (y:C.Ds Ty (A9 Cu)):Option (YT Ty DD):=CZ n y.1 y.2.1
def ZbX (n:Nat):FQ Ty:=QA (ET Cu 0 DD (F9 n))
def Zcl:List LB:=[]
def froster_Week_roster_i1_b:CB Tryz.f236:=lp 2 [(0,.l 3),(1,.f 174 [] [.p 0 [.f 120 [] [.u 32]]]),(7,.s 3),(8,.s 3)] 2 [⟨.exit 0,[.p 0 [.f 120 [] [.u 32]],.q 1],[],[]⟩,⟨.ret,[.p 0 [.f 120 [] [.u 32]],.q 1],[(4,.s 3)],[]⟩] (fun n y=>AI n y.1 y.2.1.2.1.1.2.1 y.2.2.1 y.2.2.2.1) [] []
def Zcf (n:Nat):Je Ty:=[(236,[(.loop 2,(froster_Week_roster_i1_b.F n))])]
theorem HB (n:Nat):Gl Tryz.prog (Zcf n):=⟨DG (f:=236) Tryz.func236 rfl (Ay (fn:=Tryz.f236) (L:=[(.loop 2,(froster_Week_roster_i1_b.F n))]) (ks:=[.loop 2]) ⟨froster_Week_roster_i1_b.ok n,trivial⟩ (by kernel_rfl) (by kernel_rfl)),trivial⟩
def Zcm (n:Nat):EG Ty:=[]
theorem IH (n:Nat) (x:C.Ds Ty (A9 Cu)):(Cv Tryz.prog 16 (BJ Tryz.prog ((Ow Zcl n)) (Zcf n)) (A0 (Zcm n)) (Bs Tryz.f72) (Bp Cu x)).runK (Gj Tryz.prog Tryz.f72.results.toList 0 DD)=F9 n x:=by kernel_rfl
theorem Hh (n:Nat):AX Tryz.prog 72 (ZbX n):=JK (H7 Tryz.func72 rfl rfl (by decide) rfl Ae Aj (A3 Ae Aj ((Dq Zcl n)) (HB n)) (Ay (fn:=Tryz.f72) (L:=Zcm n) (ks:=[]) trivial (by kernel_rfl) (by kernel_rfl)) (IH n))
def BH:Nat→(List Int)→(List AH)→Int→Int→Option ((List Int×Unit))
 | 0,_,_,_,_=>none
 | n+1,out,x6,x7,x8 =>
  bif decide (x8<x7) then((A4 x6 x8).bind fun v0 =>
  (app out [v0.off.hi]).bind fun v1 =>
  BH n v1 x6 x7 (IntKind.i64.wrap (x8+1))) else
  some (out,())
def DL (n:Nat) (w:Aq):Option ((List Int×Unit)) :=
 (BH n [] w.duties (↑w.duties.length:Int) 0).bind fun v0 =>
 some (v0.fst,())
def Zdf:CB Tryz.f122:=lp 2 [(2,.o 3),(6,.l 184),(7,.s 3),(8,.s 3)] 0 [⟨.exit 0,[],[(2,.o 3)],[]⟩] (u4 BH) [] []
def ZdA:LB:=lw Tryz.func122 [.g 32] 0 (rt [.l 3]) (u1 DL) [] [Zdf]
def Bw:Nat→(List Ai)→(List AA)→Int→Int→Option ((List Ai×Unit×Unit))
 | 0,_,_,_,_=>none
 | n+1,out,x6,x7,x8 =>
  bif decide (x8<x7) then((A4 x6 x8).bind fun v0 =>
  bif out.length.beq 6 then((A4 out x8).bind fun v1 =>
  (out.get?Internal x8.toNat).bind fun v2 =>
  Bw n (out.set x8.toNat (Ai.mk v0.off v0.row v0.used (-1))) x6 x7 (IntKind.i64.wrap (x8+1))) else
  none) else
  some (out,((),()))
def Da (n:Nat) (w:Aq):Option ((List Ai×Unit)) :=
 (Bw n [Ai.mk 0 0 0 0,Ai.mk 0 0 0 0,Ai.mk 0 0 0 0,Ai.mk 0 0 0 0,Ai.mk 0 0 0 0,Ai.mk 0 0 0 0] w.drivers (↑w.drivers.length:Int) 0).bind fun v0 =>
 bif v0.fst.length.beq 6 then(bif v0.fst.length.beq 6 && v0.fst.length.beq 6 then(bif v0.fst.length.beq 6 then(some (v0.fst,())) else
 none) else
 none) else
 none
def ZcS:CB Tryz.f175:=lp 2 [(2,.a 267),(6,.l 186),(7,.s 3),(8,.s 3)] 1 [⟨.exit 0,[.a 267],[(2,.q 0)],[]⟩] (u4 Bw) [] []
def Zdm:LB:=lw Tryz.func175 [.g 32] 0 (rt [.v 267]) (u1 Da) [] [ZcS]
def CA:List (Nat×C):=[(0,.g 32),(1,.s 3),(2,.g 184),(3,.g 267)]
def DX:List Wo:=[⟨.ret,[],[],[.s 4]⟩]
def DE:Nat→(List Int)→Int→Int→Int→Option (Unit ⊕ ((Int×Unit)))
 | 0,_,_,_,_=>none
 | n+1,s,v,x7,x8 =>
  bif decide (x8<x7) then((A4 s x8).bind fun v0 =>
  bif decide (v=v0) then(some (.inr (x8,()))) else
  DE n s v x7 (IntKind.i64.wrap (x8+1))) else
  some (.inl ())
def Cp (n:Nat) (w:Aq) (driver:Int) (d:AH) (_:Ai):Option ((Bool×Unit)) :=
 (A4 w.drivers driver).bind fun v0 =>
 (DE n v0.knows d.route (↑v0.knows.length:Int) 0).bind fun v1 =>
 Sum.elim (fun v2=>some (decide (-1≥0),())) (fun v2=>some (decide (v2.fst≥0),())) (v1)
def Ga (n:Nat) (y:C.Ds Ty (A9 CA)):Option (YT Ty DX):=Cp n y.1 y.2.1 y.2.2.1 y.2.2.2.1
def Zcg (n:Nat):FQ Ty:=ET CA 0 DX (Ga n)
def Zcy:List LB:=[]
def froster_Week_knows_i1_b:CB Tryz.f332:=lp 2 [(0,.l 3),(1,.s 3),(7,.s 3),(8,.s 3)] 0 [⟨.exit 0,[],[],[]⟩,⟨.ret,[],[(4,.s 3)],[]⟩] (u4 DE) [] []
def Zcn (n:Nat):Je Ty:=[(332,[(.loop 2,(froster_Week_knows_i1_b.F n))])]
theorem Ih (n:Nat):Gl Tryz.prog (Zcn n):=⟨DG (f:=332) Tryz.func332 rfl (Ay (fn:=Tryz.f332) (L:=[(.loop 2,(froster_Week_knows_i1_b.F n))]) (ks:=[.loop 2]) ⟨froster_Week_knows_i1_b.ok n,trivial⟩ (by kernel_rfl) (by kernel_rfl)),trivial⟩
def Zcz (n:Nat):EG Ty:=[]
theorem Jh (n:Nat) (x:C.Ds Ty (A9 CA)):(Cv Tryz.prog 18 (BJ Tryz.prog ((Ow Zcy n)) (Zcn n)) (A0 (Zcz n)) (Bs Tryz.f238) (Bp CA x)).runK (Gj Tryz.prog Tryz.f238.results.toList 0 DX)=Ga n x:=by kernel_rfl
theorem HC (n:Nat):AX Tryz.prog 238 (Zcg n):=H7 Tryz.func238 rfl rfl (by decide) rfl Ae Aj (A3 Ae Aj ((Dq Zcy n)) (Ih n)) (Ay (fn:=Tryz.f238) (L:=Zcz n) (ks:=[]) trivial (by kernel_rfl) (by kernel_rfl)) (Jh n)
def Db:List (Nat×C):=[(0,.g 32),(1,.s 3),(2,.g 184),(3,.g 267)]
def E0:List Wo:=[⟨.ret,[],[],[.s 4]⟩]
def DY:Nat→(List Int)→Int→Int→Int→Option (Unit ⊕ ((Int×Unit)))
 | 0,_,_,_,_=>none
 | n+1,s,v,x7,x8 =>
  bif decide (x8<x7) then((A4 s x8).bind fun v0 =>
  bif decide (v=v0) then(some (.inr (x8,()))) else
  DY n s v x7 (IntKind.i64.wrap (x8+1))) else
  some (.inl ())
def CC (n:Nat) (w:Aq) (driver:Int) (d:AH) (_:Ai):Option ((Bool×Unit)) :=
 (A4 w.drivers driver).bind fun v0 =>
 (DY n v0.leave d.day (↑v0.leave.length:Int) 0).bind fun v1 =>
 Sum.elim (fun v2=>some (!decide (-1≥0),())) (fun v2=>some (!decide (v2.fst≥0),())) (v1)
def Gq (n:Nat) (y:C.Ds Ty (A9 Db)):Option (YT Ty E0):=CC n y.1 y.2.1 y.2.2.1 y.2.2.2.1
def Zco (n:Nat):FQ Ty:=ET Db 0 E0 (Gq n)
def Zc6:List LB:=[]
def froster_Week_here_i1_b:CB Tryz.f332:=lp 2 [(0,.l 3),(1,.s 3),(7,.s 3),(8,.s 3)] 0 [⟨.exit 0,[],[],[]⟩,⟨.ret,[],[(4,.s 3)],[]⟩] (u4 DY) [] []
def Zc0 (n:Nat):Je Ty:=[(332,[(.loop 2,(froster_Week_here_i1_b.F n))])]
theorem II (n:Nat):Gl Tryz.prog (Zc0 n):=⟨DG (f:=332) Tryz.func332 rfl (Ay (fn:=Tryz.f332) (L:=[(.loop 2,(froster_Week_here_i1_b.F n))]) (ks:=[.loop 2]) ⟨froster_Week_here_i1_b.ok n,trivial⟩ (by kernel_rfl) (by kernel_rfl)),trivial⟩
def Zc7 (n:Nat):EG Ty:=[]
theorem JW (n:Nat) (x:C.Ds Ty (A9 Db)):(Cv Tryz.prog 19 (BJ Tryz.prog ((Ow Zc6 n)) (Zc0 n)) (A0 (Zc7 n)) (Bs Tryz.f239) (Bp Db x)).runK (Gj Tryz.prog Tryz.f239.results.toList 0 E0)=Gq n x:=by kernel_rfl
theorem Ii (n:Nat):AX Tryz.prog 239 (Zco n):=H7 Tryz.func239 rfl rfl (by decide) rfl Ae Aj (A3 Ae Aj ((Dq Zc6 n)) (II n)) (Ay (fn:=Tryz.f239) (L:=Zc7 n) (ks:=[]) trivial (by kernel_rfl) (by kernel_rfl)) (JW n)
def Dc (n:Nat) (w:Aq) (_:Int) (d:AH) (s:Ai):Option ((Bool×Unit)) :=
 some (s.day != d.day,())
def Zdn:LB:=lw Tryz.func240 [.g 32,.s 3,.g 184,.g 267] 0 (rt [.s 4]) (u4 Dc) [] []
def BY (n:Nat) (w:Aq) (_:Int) (d:AH) (s:Ai):Option ((Bool×Unit)) :=
 bif !decide (s.day=d.day) then(some (decide (IntKind.i64.wrap (IntKind.i64.wrap (IntKind.i64.wrap (d.day*1440)+d.on)-s.free)≥w.rest),())) else
 some (true,())
def Zdo:LB:=lw Tryz.func241 [.g 32,.s 3,.g 184,.g 267] 0 (rt [.s 4]) (u4 BY) [] []
def Cq (n:Nat) (s:Ai) (d:AH) (end_:Int):Option ((Ai×Unit)) :=
 bif decide (s.day=d.day) then(some (Ai.mk s.free s.row (IntKind.i64.wrap (s.used+IntKind.i64.wrap (end_-d.on))) s.day,())) else
 bif s.day != IntKind.i64.wrap (d.day-1) then(some (Ai.mk (IntKind.i64.wrap (IntKind.i64.wrap (d.day*1440)+end_)) (IntKind.i64.wrap (0+1)) (IntKind.i64.wrap (s.used+IntKind.i64.wrap (end_-d.on))) d.day,())) else
 some (Ai.mk (IntKind.i64.wrap (IntKind.i64.wrap (d.day*1440)+end_)) (IntKind.i64.wrap (s.row+1)) (IntKind.i64.wrap (s.used+IntKind.i64.wrap (end_-d.on))) d.day,())
def Zc1:LB:=lw Tryz.func178 [.g 267,.g 184,.s 3] 0 (rt [.g 267]) (u3 Cq) [] []
def Cr (n:Nat) (w:Aq) (_:Int) (d:AH) (s:Ai):Option ((Bool×Unit)) :=
 bif !decide (s.day=d.day) then((Cq n s d d.on).bind fun v0 =>
 some (decide (v0.fst.row≤w.run),())) else
 some (true,())
def Zd2:LB:=lw Tryz.func242 [.g 32,.s 3,.g 184,.g 267] 0 (rt [.s 4]) (u4 Cr) [Zc1] []
def Bj:List (Nat×C):=[(3,.u 32),(5,.p 0 [.l 3]),(6,.p 0 [.o 280]),(7,.a 267),(9,.s 3),(10,.u 184),(11,.s 3),(33,.o 278),(34,.s 3),(35,.s 3)]
def CI:List Wo:=[⟨.exit 4,[.u 32,.p 0 [.l 3],.p 0 [.o 280],.a 267,.u 184],[(5,.q 1),(7,.q 3),(9,.s 3),(10,.q 4),(11,.s 3)],[]⟩]
def Bk:List (Nat×C):=[(0,.y 0 121 [3,4,5,6,7] [.u 32,.p 0 [.l 3],.p 0 [.l 3],.p 0 [.o 280],.a 267]),(2,.p 0 [.s 3]),(7,.l 184),(8,.s 3),(9,.s 3)]
def CK:List Wo:=[⟨.exit 0,[.y 0 121 [3,4,5,6,7] [.u 32,.p 0 [.l 3],.p 0 [.l 3],.p 0 [.o 280],.a 267],.q 1,.q 2,.q 3,.q 4,.q 5,.p 0 [.s 3]],[],[]⟩,⟨.ret,[.y 0 121 [3,4,5,6,7] [.u 32,.p 0 [.l 3],.p 0 [.l 3],.p 0 [.o 280],.a 267],.q 1,.q 2,.q 3,.q 4,.q 5,.p 0 [.s 3]],[],[]⟩]
def Ac:Nat→Aq→(List Int)→(List Ak)→(List Ai)→Int→AH→Int→(List AC)→Int→Int→Option ((Aq×(List Int×Unit)×(List Ak×Unit)×List Ai×AH×Unit×Unit×Int×Unit×Int×Unit))
 | 0,_,_,_,_,_,_,_,_,_,_=>none
 | n+1,w,truth,out,now,i,d,k,x33,x34,x35 =>
  bif decide (x35<x34) then((A4 x33 x35).bind fun v0 =>
  (x33.get?Internal x35.toNat).bind fun v1 =>
  bif now.length.beq 6 then((A4 now k).bind fun v2 =>
  (now.get?Internal k.toNat).bind fun v3 =>
  bif decide (v1.holds.f=(↑238:Int)) then((Cp n w k d v3).bind fun v4 =>
  bif !v4.fst then((app out [Ak.mk v1.kind k i]).bind fun v5 =>
  Ac n w truth v5 now i d k x33 x34 (IntKind.i64.wrap (x35+1))) else
  Ac n w truth out now i d k x33 x34 (IntKind.i64.wrap (x35+1))) else
  bif decide (v1.holds.f=(↑239:Int)) then((CC n w k d v3).bind fun v4 =>
  bif !v4.fst then((app out [Ak.mk v1.kind k i]).bind fun v5 =>
  Ac n w truth v5 now i d k x33 x34 (IntKind.i64.wrap (x35+1))) else
  Ac n w truth out now i d k x33 x34 (IntKind.i64.wrap (x35+1))) else
  bif decide (v1.holds.f=(↑240:Int)) then((Dc n w k d v3).bind fun v4 =>
  bif !v4.fst then((app out [Ak.mk v1.kind k i]).bind fun v5 =>
  Ac n w truth v5 now i d k x33 x34 (IntKind.i64.wrap (x35+1))) else
  Ac n w truth out now i d k x33 x34 (IntKind.i64.wrap (x35+1))) else
  bif decide (v1.holds.f=(↑241:Int)) then((BY n w k d v3).bind fun v4 =>
  bif !v4.fst then((app out [Ak.mk v1.kind k i]).bind fun v5 =>
  Ac n w truth v5 now i d k x33 x34 (IntKind.i64.wrap (x35+1))) else
  Ac n w truth out now i d k x33 x34 (IntKind.i64.wrap (x35+1))) else
  bif decide (v1.holds.f=(↑242:Int)) then((Cr n w k d v3).bind fun v4 =>
  bif !v4.fst then((app out [Ak.mk v1.kind k i]).bind fun v5 =>
  Ac n w truth v5 now i d k x33 x34 (IntKind.i64.wrap (x35+1))) else
  Ac n w truth out now i d k x33 x34 (IntKind.i64.wrap (x35+1))) else
  none) else
  none) else
  some (w,((truth,()),((out,()),(now,(d,((),((),(i,((),(k,()))))))))))
def BC (n:Nat) (y:C.Ds Ty (A9 Bj)):Option (YT Ty CI):=Ac n y.1 y.2.1.1 y.2.2.1.1 y.2.2.2.1 y.2.2.2.2.1 y.2.2.2.2.2.1 y.2.2.2.2.2.2.1 y.2.2.2.2.2.2.2.1 y.2.2.2.2.2.2.2.2.1 y.2.2.2.2.2.2.2.2.2.1
def ZbN (n:Nat):St Ty→Tr (Lf Ty):=K4 Bj 5 CI (BC n)
def AJ:Nat→Aq→(List Int)→(List Int)→(List Ak)→(List Ai)→Int→(List AH)→Int→Int→Option (((Aq×(List Int×Unit)×(List Int×Unit)×(List Ak×Unit)×List Ai×Unit)×Unit×Unit×Unit×Unit×Unit×(Int×Unit)×Unit) ⊕ (((Aq×(List Int×Unit)×(List Int×Unit)×(List Ak×Unit)×List Ai×Unit)×Unit×Unit×Unit×Unit×Unit×(Int×Unit)×Unit)))
 | 0,_,_,_,_,_,_,_,_,_=>none
 | n+1,yield1,yield2,yield3,yield4,yield5,x2,x7,x8,x9 =>
  bif decide (x9<x8) then((A4 x7 x9).bind fun v0 =>
  bif decide (v0.day=x2) then((A4 yield2 x9).bind fun v1 =>
  bif decide (v1=-1) then(AJ n yield1 yield2 yield3 yield4 yield5 x2 x7 x8 (IntKind.i64.wrap (x9+1))) else
  (Ac n yield1 yield3 yield4 yield5 x9 v0 v1 [AC.mk (IK.mk 0) (Fp.mk (↑238:Int)),AC.mk (IK.mk 1) (Fp.mk (↑239:Int)),AC.mk (IK.mk 2) (Fp.mk (↑240:Int)),AC.mk (IK.mk 3) (Fp.mk (↑241:Int)),AC.mk (IK.mk 4) (Fp.mk (↑242:Int))] (↑[AC.mk (IK.mk 0) (Fp.mk (↑238:Int)),AC.mk (IK.mk 1) (Fp.mk (↑239:Int)),AC.mk (IK.mk 2) (Fp.mk (↑240:Int)),AC.mk (IK.mk 3) (Fp.mk (↑241:Int)),AC.mk (IK.mk 4) (Fp.mk (↑242:Int))].length:Int) 0).bind fun v2 =>
  bif v2.snd.snd.snd.fst.length.beq 6 then((A4 v2.snd.snd.snd.fst v2.snd.snd.snd.snd.snd.snd.snd.snd.snd.fst).bind fun v3 =>
  (v2.snd.snd.snd.fst.get?Internal v2.snd.snd.snd.snd.snd.snd.snd.snd.snd.fst.toNat).bind fun v4 =>
  (A4 v2.snd.fst.fst v2.snd.snd.snd.snd.snd.snd.snd.fst).bind fun v5 =>
  (Cq n v4 v2.snd.snd.snd.snd.fst v5).bind fun v6 =>
  bif v2.snd.snd.snd.fst.length.beq 6 then((A4 v2.snd.snd.snd.fst v2.snd.snd.snd.snd.snd.snd.snd.snd.snd.fst).bind fun v7 =>
  (v2.snd.snd.snd.fst.get?Internal v2.snd.snd.snd.snd.snd.snd.snd.snd.snd.fst.toNat).bind fun v8 =>
  AJ n v2.fst yield2 v2.snd.fst.fst v2.snd.snd.fst.fst (v2.snd.snd.snd.fst.set v2.snd.snd.snd.snd.snd.snd.snd.snd.snd.fst.toNat v6.fst) x2 x7 x8 (IntKind.i64.wrap (x9+1))) else
  none) else
  none) else
  AJ n yield1 yield2 yield3 yield4 yield5 x2 x7 x8 (IntKind.i64.wrap (x9+1))) else
  some (.inl ((yield1,((yield2,()),((yield3,()),((yield4,()),(yield5,()))))),((),((),((),((),((),((x2,()),()))))))))
def BD (n:Nat) (y:C.Ds Ty (A9 Bk)):Option (YT Ty CK):=AJ n y.1.1 y.1.2.1.1 y.1.2.2.1.1 y.1.2.2.2.1.1 y.1.2.2.2.2.1 y.2.1.1 y.2.2.1 y.2.2.2.1 y.2.2.2.2.1
def Zb6 (n:Nat):St Ty→Tr (Lf Ty):=K4 Bk 7 CK (BD n)
def AK:Nat→Aq→(List Int)→(List Int)→(List Ak)→(List Ai)→Int→Int→Option ((Aq×(List Int×Unit)×(List Int×Unit)×(List Ak×Unit)×List Ai×Unit×Unit×Unit×Unit))
 | 0,_,_,_,_,_,_,_=>none
 | n+1,w,roster,truth,out,now,x18,x19 =>
  bif decide (x19<x18) then((AJ n w roster truth out now x19 w.duties (↑w.duties.length:Int) 0).bind fun v0 =>
  Sum.elim (fun v1=>AK n v1.fst.fst v1.fst.snd.fst.fst v1.fst.snd.snd.fst.fst v1.fst.snd.snd.snd.fst.fst v1.fst.snd.snd.snd.snd.fst x18 (IntKind.i64.wrap (x19+1))) (fun v1=>AK n v1.fst.fst v1.fst.snd.fst.fst v1.fst.snd.snd.fst.fst v1.fst.snd.snd.snd.fst.fst v1.fst.snd.snd.snd.snd.fst x18 (IntKind.i64.wrap (x19+1))) (v0)) else
  some (w,((roster,()),((truth,()),((out,()),(now,((),((),((),()))))))))
def AM:Nat→Aq→(List Ak)→(List Ai)→Int→Int→Option ((Aq×(List Ak×Unit)×List Ai×Unit×Unit))
 | 0,_,_,_,_,_=>none
 | n+1,w,out,now,x72,x73 =>
  bif decide (x73<x72) then(bif now.length.beq 6 then((A4 now x73).bind fun v0 =>
  (now.get?Internal x73.toNat).bind fun v1 =>
  bif decide (v1.used>w.hours) then((app out [Ak.mk (IK.mk 5) x73 0]).bind fun v2 =>
  AM n w v2 now x72 (IntKind.i64.wrap (x73+1))) else
  AM n w out now x72 (IntKind.i64.wrap (x73+1))) else
  none) else
  some (w,((out,()),(now,((),()))))
def Dd (n:Nat) (w:Aq) (roster:List Int) (truth:List Int):Option ((List Ak×Unit)) :=
 (Da n w).bind fun v0 =>
 bif [Ai.mk 0 0 0 0,Ai.mk 0 0 0 0,Ai.mk 0 0 0 0,Ai.mk 0 0 0 0,Ai.mk 0 0 0 0,Ai.mk 0 0 0 0].length.beq 6 && v0.fst.length.beq 6 then((AK n w roster truth [] v0.fst w.days 0).bind fun v1 =>
 (AM n v1.fst v1.snd.snd.snd.fst.fst v1.snd.snd.snd.snd.fst (↑v1.fst.drivers.length:Int) 0).bind fun v2 =>
 (SB v2.snd.fst.fst).bind fun v3 =>
 some (v3,())) else
 none
def Zd3:LB:=⟨238,Zcg,HC⟩
def ZdB:LB:=⟨239,Zco,Ii⟩
def Zfy:LB:=⟨179,ZeI,We⟩
def Zbz:List LB:=[Zdm,Zd3,ZdB,Zdn,Zdo,Zd2,Zc1,Zfy]
def ZbT (n:Nat):EG Ty:=[]
theorem Hi (n:Nat) (x:C.Ds Ty (A9 Bj)):(Cv Tryz.prog 92 (Aea (BJ Tryz.prog ((Ow Zbz n)) [])) (A0 (ZbT n)) (BR 11 Tryz.f121) (Bp Bj x)).runK (EE 5 Bj CI (BC n))=BC (n+1) x:=by kernel_rfl
theorem Hj (n:Nat):Bm false Tryz.prog 92 (ZbN n) (.loop (BR 11 Tryz.f121)):=FO fun x y hy=>DR (Fn:=BC) Ae Aj (fun n=>Xh (A3 Ae Aj ((Dq Zbz n)) Eu)) (fun _ _=>Qg) (fun _=>by kernel_rfl) (fun n=>(Ay (fn:=Tryz.f121) (L:=ZbT n) (ks:=[]) trivial (by kernel_rfl) (by kernel_rfl))) (by decide) (fun _=>rfl) Hi hy
def Zcp (n:Nat):EG Ty:=[(.loop 11,ZbN n)]
def ZbH (n:Nat):List (Nat×FQ Ty):=(An,AeO Tryz.prog (BJ Tryz.prog ((Ow Zbz n)) []) (A0 []) (A0 (Zcp n)) 121)::(Ow Zbz n)
theorem EQ (n:Nat):JF Tryz.prog (ZbH n):=⟨Xp Ae Aj (A3 Ae Aj ((Dq Zbz n)) Eu) (fun _ _ _ h=>by cases h) (Ay (fn:=Tryz.f121) (c:=(RFs.rf 121).body) (N:=(RFs.rf 121).n) (L:=Zcp n) (ks:=[.loop 11]) ⟨Hj n,trivial⟩ (by kernel_rfl) (by kernel_rfl)),Dq Zbz n⟩
def ZbU (n:Nat):EG Ty:=[]
theorem Hk (n:Nat) (x:C.Ds Ty (A9 Bk)):(Cv Tryz.prog 26 (BJ Tryz.prog (ZbH n) []) (A0 (ZbU n)) (BR 1 Tryz.f237) (Bp Bk x)).runK (EE 7 Bk CK (BD n))=BD (n+1) x:=by kernel_rfl
theorem Hl (n:Nat):Bm true Tryz.prog 26 (Zb6 n) (.loop (BR 1 Tryz.f237)):=FO fun x y hy=>DR (Fn:=BD) Ae Aj (fun n=>A3 Ae Aj (EQ n) Eu) (fun h=>by cases h) (fun h=>by cases h) (fun n=>(Ay (fn:=Tryz.f237) (L:=ZbU n) (ks:=[]) trivial (by kernel_rfl) (by kernel_rfl))) (by decide) (fun _=>rfl) Hk hy
def Zcq (n:Nat):Je Ty:=[(237,[(.loop 1,Zb6 n)])]
theorem Ij (n:Nat):Gl Tryz.prog (Zcq n):=⟨DG (f:=237) Tryz.func237 rfl (Ay (fn:=Tryz.f237) (L:=[(.loop 1,Zb6 n)]) (ks:=[.loop 1]) ⟨Hl n,trivial⟩ (by kernel_rfl) (by kernel_rfl)),trivial⟩
def Zch (n:Nat):St Ty→Tr (Lf Ty):=Aeu Tryz.prog (BJ Tryz.prog (ZbH n) (Zcq n)) (.tmp 24) 121 [3,4,5,6,7]
theorem HD (n:Nat):Bm true Tryz.prog 92 (Zch n) (DT (.rf 8) Tryz.f121):=Xs (A3 Ae Aj (EQ n) (Ij n)) (by kernel_rfl) (by kernel_rfl)
def ZcT:CB Tryz.f121:=lp 3 [(3,.u 32),(4,.p 0 [.l 3]),(5,.p 0 [.l 3]),(6,.p 0 [.o 280]),(7,.a 267),(18,.s 3),(19,.s 3)] 5 [⟨.exit 0,[.u 32,.p 0 [.l 3],.p 0 [.l 3],.p 0 [.o 280],.a 267],[(3,.q 0),(6,.q 3),(7,.q 4)],[]⟩] (fun n y=>AK n y.1 y.2.1.1 y.2.2.1.1 y.2.2.2.1.1 y.2.2.2.2.1 y.2.2.2.2.2.1 y.2.2.2.2.2.2.1) Zbz [⟨.rf 8,fun n=>Zch n,fun n=>HD n⟩]
def ZcU:CB Tryz.f121:=lp 19 [(3,.u 32),(6,.p 0 [.o 280]),(7,.a 267),(72,.s 3),(73,.s 3)] 3 [⟨.exit 6,[.u 32,.p 0 [.o 280],.a 267],[(6,.q 1)],[]⟩] (fun n y=>AM n y.1 y.2.1.1 y.2.2.1 y.2.2.2.1 y.2.2.2.2.1) Zbz []
def Zdp:LB:=lw Tryz.func121 [.g 32,.l 3,.l 3] 0 (rt [.o 280]) (u3 Dd) Zbz [ZcT,ZcU]
def Dx (n:Nat) (w:Aq) (roster:List Int):Option ((Bool×Unit)) :=
 (DL n w).bind fun v0 =>
 (Dd n w roster v0.fst).bind fun v1 =>
 some (decide ((↑v1.fst.length:Int)=0),())
def Zd4:LB:=(lw Tryz.func73 [.g 32,.l 3] 0 (rt [.s 4]) (u2 Dx) [ZdA,Zdp] []).rd
def BO:Nat→Int→(List Int)→Int→Int→Option ((Int×Unit))
 | 0,_,_,_,_=>none
 | n+1,n_,x5,x6,x7 =>
  bif decide (x7<x6) then((A4 x5 x7).bind fun v0 =>
  bif v0 != -1 then(BO n (IntKind.i64.wrap (n_+1)) x5 x6 (IntKind.i64.wrap (x7+1))) else
  BO n n_ x5 x6 (IntKind.i64.wrap (x7+1))) else
  some (n_,())
def Fq (n:Nat) (roster:List Int):Option ((Int×Unit)) :=
 (BO n 0 roster (↑roster.length:Int) 0).bind fun v0 =>
 some (v0.fst,())
def ZdC:CB Tryz.f74:=lp 2 [(2,.s 3),(5,.l 3),(6,.s 3),(7,.s 3)] 0 [⟨.exit 0,[],[(2,.s 3)],[]⟩] (u4 BO) [] []
def Zen:LB:=(lw Tryz.func74 [.l 3] 0 (rt [.s 3]) (u1 Fq) [] [ZdC]).rd
def BZ (n:Nat) (w:Aq) (roster:List Int) (least:Int):Option ((Bool×Unit)) :=
 (BN n w).bind fun v0 =>
 bif decide (v0.fst=0) then((CZ n w roster).bind fun v1 =>
 bif v1.fst then((Dx n w roster).bind fun v2 =>
 bif v2.fst then((Fq n roster).bind fun v3 =>
 some (decide (v3.fst≥least),())) else
 some (false,())) else
 some (false,())) else
 some (false,())
def Zdq:LB:=⟨72,ZbX,Hh⟩
def Zdr:LB:=(lw Tryz.func33 [.g 32,.l 3,.s 3] 0 (rt [.s 4]) (u3 BZ) [ZbO,Zdq,Zd4,Zen] []).rd
def BI (n:Nat) (g:Aa) (n_:List Int):Option ((Aa×Unit) ⊕ ((Aa×Av×Unit))) :=
 bif n_.length.beq 5 then((A4 n_ 0).bind fun v0 =>
 (n_.get?Internal (Int.toNat 0)).bind fun v1 =>
 (Bi n v1 0 (IntKind.i64.wrap ((↑g.state.roster.length:Int)-1))).bind fun v2 =>
 bif v2.fst then(bif n_.length.beq 5 then((A4 n_ 1).bind fun v3 =>
 (n_.get?Internal (Int.toNat 1)).bind fun v4 =>
 (Bi n v4 (-1) (IntKind.i64.wrap ((↑g.state.week.drivers.length:Int)-1))).bind fun v5 =>
 (As n v5.fst 2).bind fun v6 =>
 Sum.elim (fun v7=>(Lx n g.state.roster).bind fun v8 =>
 bif n_.length.beq 5 then((A4 n_ 0).bind fun v9 =>
 (n_.get?Internal (Int.toNat 0)).bind fun v10 =>
 bif n_.length.beq 5 then((A4 n_ 1).bind fun v11 =>
 (n_.get?Internal (Int.toNat 1)).bind fun v12 =>
 (A4 v8.fst v10).bind fun v13 =>
 (v8.fst.get?Internal v10.toNat).bind fun v14 =>
 (BZ n g.state.week (v8.fst.set v10.toNat v12) 0).bind fun v15 =>
 (As n v15.fst 10).bind fun v16 =>
 Sum.elim (fun v17=>some (.inl (Aa.mk (Ah.mk g.state.cards g.state.outs g.state.runs g.state.records g.state.week (v8.fst.set v10.toNat v12)),()))) (fun v17=>some (.inr (g,(v17.fst,())))) (v16)) else
 none) else
 none) (fun v7=>some (.inr (g,(v7.fst,())))) (v6)) else
 none) else
 (As n false 2).bind fun v3 =>
 Sum.elim (fun v4=>(Lx n g.state.roster).bind fun v5 =>
 bif n_.length.beq 5 then((A4 n_ 0).bind fun v6 =>
 (n_.get?Internal (Int.toNat 0)).bind fun v7 =>
 bif n_.length.beq 5 then((A4 n_ 1).bind fun v8 =>
 (n_.get?Internal (Int.toNat 1)).bind fun v9 =>
 (A4 v5.fst v7).bind fun v10 =>
 (v5.fst.get?Internal v7.toNat).bind fun v11 =>
 (BZ n g.state.week (v5.fst.set v7.toNat v9) 0).bind fun v12 =>
 (As n v12.fst 10).bind fun v13 =>
 Sum.elim (fun v14=>some (.inl (Aa.mk (Ah.mk g.state.cards g.state.outs g.state.runs g.state.records g.state.week (v5.fst.set v7.toNat v9)),()))) (fun v14=>some (.inr (g,(v14.fst,())))) (v13)) else
 none) else
 none) (fun v4=>some (.inr (g,(v4.fst,())))) (v3)) else
 none
def fgarage_session_give_b:LB:=lw Tryz.func200 [.u 114,.v 3] 1 [⟨.ret,[.u 114],[],[]⟩,⟨.pan,[.u 114],[],[.i 234 (.g 234)]⟩] (u2 BI) [ZbL,fgarage_ask_b,ZeR,Zdr] []
def Acc (n:Nat):Option (((List (ByteArray×Dn))×Unit)) :=
 some (Fe F7 (Fe F7 (Fe F7 (Fe F7 (Fe F7 (Fe F7 (Fe F7 (Fe F7 (Fe F7 (Fe F7 (Fe F7 (Fe F7 [] (B [102,111,117,110,100]) (Dn.mk 4 (Fp.mk (↑189:Int)))) (B [104,101,108,100]) (Dn.mk 4 (Fp.mk (↑190:Int)))) (B [115,105,103,110,101,100]) (Dn.mk 4 (Fp.mk (↑191:Int)))) (B [99,104,101,99,107,101,100]) (Dn.mk 3 (Fp.mk (↑192:Int)))) (B [111,117,116]) (Dn.mk 2 (Fp.mk (↑193:Int)))) (B [105,110]) (Dn.mk 3 (Fp.mk (↑194:Int)))) (B [115,97,108,101]) (Dn.mk 5 (Fp.mk (↑195:Int)))) (B [115,121,110,99]) (Dn.mk 4 (Fp.mk (↑196:Int)))) (B [99,108,111,115,101]) (Dn.mk 5 (Fp.mk (↑197:Int)))) (B [100,114,105,118,101,114]) (Dn.mk 2 (Fp.mk (↑198:Int)))) (B [100,117,116,121]) (Dn.mk 5 (Fp.mk (↑199:Int)))) (B [103,105,118,101]) (Dn.mk 2 (Fp.mk (↑200:Int))),())
def words_b:LB:=lw Tryz.func138 [] 0 (rt [.m 9 237]) (fun n _=>Acc n) [fgarage_session_found_b,fgarage_session_held_b,fgarage_session_signed_b,fgarage_session_checked_b,fgarage_session_out_b,fgarage_session_in_b,fgarage_session_sale_b,fgarage_session_sync_b,fgarage_session_close_b,fgarage_session_driver_b,fgarage_session_duty_b,fgarage_session_give_b] []
def Fs (n:Nat) (s:ByteArray):Option ((Int×Unit) ⊕ ((Av×Unit))) :=
 (KJ s).bind fun v0 =>
 Sum.elim (fun v1=>(B3 n v1).bind fun v2 =>
 bif v2.fst.beq s then((Bi n v1 (-999999999) 999999999).bind fun v3 =>
 (As n v3.fst 4).bind fun v4 =>
 Sum.elim (fun v5=>some (.inl (v1,()))) (fun v5=>some (.inr (v5.fst,()))) (v4)) else
 (As n false 4).bind fun v3 =>
 Sum.elim (fun v4=>some (.inl (v1,()))) (fun v4=>some (.inr (v4.fst,()))) (v3)) (fun v1=>(As n false 4).bind fun v2 =>
 Sum.elim (fun v3=>some (.inl (v1,()))) (fun v3=>some (.inr (v3.fst,()))) (v2)) (v0)
def Zfg:LB:=⟨113,ZdI,VX⟩
def Ze8:LB:=⟨89,ZeJ,VW⟩
def fgarage_number_b:LB:=lw Tryz.func140 [.s 9] 0 [⟨.ret,[],[],[.s 3]⟩,⟨.pan,[],[],[.i 234 (.g 234)]⟩] (u1 Fs) [Zfg,Ze8,ZbL,fgarage_ask_b] []
def KN:Nat→Code→Code
 | n+1,.seq _ b=>KN n b
 | _,c=>c
def Ha:List (Nat×C):=[(0,.u 114),(4,.p 0 [.s 3]),(6,.u 237),(8,.a 3),(33,.l 9),(34,.s 3),(35,.s 3)]
def Lz:List Wo:=[⟨.exit 0,[.u 114,.p 0 [.s 3],.u 237,.a 3],[(0,.q 0),(4,.q 1),(6,.q 2),(8,.q 3)],[]⟩,⟨.pan,[.u 114,.p 0 [.s 3],.u 237,.a 3],[(4,.q 1)],[.i 234 (.g 234)]⟩]
def H1:List (Nat×C):=[(0,.u 114),(1,.s 9),(4,.p 0 [.s 37])]
def IJ:List Wo:=[⟨.ret,[.u 114,.p 0 [.s 37]],[(4,.q 1)],[]⟩,⟨.pan,[.u 114,.p 0 [.s 37]],[(4,.q 1)],[.i 234 (.g 234)]⟩]
def Hb:Nat→Aa→Int→Dn→(List Int)→(List ByteArray)→Int→Int→Option ((Aa×(Int×Unit)×Dn×List Int×Unit×Unit×Unit×Unit×Unit) ⊕ ((Aa×(Int×Unit)×Dn×List Int×Unit×Av×Unit)))
 | 0,_,_,_,_,_,_,_=>none
 | n+1,g,e,x,n_,x33,x34,x35 =>
  bif decide (x35<x34) then((A4 x33 x35).bind fun v0 =>
  (Fs n v0).bind fun v1 =>
  Sum.elim (fun v2=>bif n_.length.beq 5 then((A4 n_ x35).bind fun v3 =>
  (n_.get?Internal x35.toNat).bind fun v4 =>
  Hb n g e x (n_.set x35.toNat v2.fst) x33 x34 (IntKind.i64.wrap (x35+1))) else
  none) (fun v2=>some (.inr (g,((e,()),(x,(n_,((),(v2.fst,())))))))) (v1)) else
  some (.inl (g,((e,()),(x,(n_,((),((),((),((),())))))))))
def IL (n:Nat) (y:C.Ds Ty (A9 Ha)):Option (YT Ty Lz):=Hb n y.1 y.2.1.1 y.2.2.1 y.2.2.2.1 y.2.2.2.2.1 y.2.2.2.2.2.1 y.2.2.2.2.2.2.1
def ZdW (n:Nat):St Ty→Tr (Lf Ty):=K4 Ha 4 Lz (IL n)
def Wk (n:Nat) (g:Aa) (text:ByteArray) (e:Int):Option ((Aa×(Int×Unit)×Unit×Unit) ⊕ ((Aa×(Int×Unit)×Unit×Av×Unit))) :=
 (NB n text (B [32])).bind fun v0 =>
 (Acc n).bind fun v1 =>
 (A4 v0.fst 0).bind fun v2 =>
 bif Dm F7 v1.fst v2 then((As n (decide ((↑v0.fst.length:Int)=IntKind.i64.wrap ((AN F7 v1.fst v2 (Dn.mk 0 (Fp.mk (-1)))).many+1))) 4).bind fun v3 =>
 Sum.elim (fun v4=>(H5 v0.fst 1 (↑v0.fst.length:Int)).bind fun v5 =>
 (Hb n g e (AN F7 v1.fst v2 (Dn.mk 0 (Fp.mk (-1)))) [0,0,0,0,0] v5 (↑v5.length:Int) 0).bind fun v6 =>
 Sum.elim (fun v7=>bif v7.snd.snd.snd.fst.length.beq 5 then(bif decide (v7.snd.snd.fst.do_.f=(↑189:Int)) then((Cs n v7.fst v7.snd.snd.snd.fst).bind fun v8 =>
 Sum.elim (fun v9=>some (.inl (v9.fst,((0,()),((),()))))) (fun v9=>some (.inr (v9.fst,((v7.snd.fst.fst,()),((),(v9.snd.fst,())))))) (v8)) else
 bif decide (v7.snd.snd.fst.do_.f=(↑190:Int)) then((C5 n v7.fst v7.snd.snd.snd.fst).bind fun v8 =>
 Sum.elim (fun v9=>some (.inl (v9.fst,((0,()),((),()))))) (fun v9=>some (.inr (v9.fst,((v7.snd.fst.fst,()),((),(v9.snd.fst,())))))) (v8)) else
 bif decide (v7.snd.snd.fst.do_.f=(↑191:Int)) then((Cf n v7.fst v7.snd.snd.snd.fst).bind fun v8 =>
 Sum.elim (fun v9=>some (.inl (v9.fst,((0,()),((),()))))) (fun v9=>some (.inr (v9.fst,((v7.snd.fst.fst,()),((),(v9.snd.fst,())))))) (v8)) else
 bif decide (v7.snd.snd.fst.do_.f=(↑192:Int)) then((BL n v7.fst v7.snd.snd.snd.fst).bind fun v8 =>
 Sum.elim (fun v9=>some (.inl (v9.fst,((0,()),((),()))))) (fun v9=>some (.inr (v9.fst,((v7.snd.fst.fst,()),((),(v9.snd.fst,())))))) (v8)) else
 bif decide (v7.snd.snd.fst.do_.f=(↑193:Int)) then((BT n v7.fst v7.snd.snd.snd.fst).bind fun v8 =>
 Sum.elim (fun v9=>some (.inl (v9.fst,((0,()),((),()))))) (fun v9=>some (.inr (v9.fst,((v7.snd.fst.fst,()),((),(v9.snd.fst,())))))) (v8)) else
 bif decide (v7.snd.snd.fst.do_.f=(↑194:Int)) then((Co n v7.fst v7.snd.snd.snd.fst).bind fun v8 =>
 Sum.elim (fun v9=>some (.inl (v9.fst,((0,()),((),()))))) (fun v9=>some (.inr (v9.fst,((v7.snd.fst.fst,()),((),(v9.snd.fst,())))))) (v8)) else
 bif decide (v7.snd.snd.fst.do_.f=(↑195:Int)) then((C7 n v7.fst v7.snd.snd.snd.fst).bind fun v8 =>
 Sum.elim (fun v9=>some (.inl (v9.fst,((0,()),((),()))))) (fun v9=>some (.inr (v9.fst,((v7.snd.fst.fst,()),((),(v9.snd.fst,())))))) (v8)) else
 bif decide (v7.snd.snd.fst.do_.f=(↑196:Int)) then((C8 n v7.fst v7.snd.snd.snd.fst).bind fun v8 =>
 Sum.elim (fun v9=>some (.inl (v9.fst,((0,()),((),()))))) (fun v9=>some (.inr (v9.fst,((v7.snd.fst.fst,()),((),(v9.snd.fst,())))))) (v8)) else
 bif decide (v7.snd.snd.fst.do_.f=(↑197:Int)) then((Ct n v7.fst v7.snd.snd.snd.fst).bind fun v8 =>
 Sum.elim (fun v9=>some (.inl (v9.fst,((0,()),((),()))))) (fun v9=>some (.inr (v9.fst,((v7.snd.fst.fst,()),((),(v9.snd.fst,())))))) (v8)) else
 bif decide (v7.snd.snd.fst.do_.f=(↑198:Int)) then((Bv n v7.fst v7.snd.snd.snd.fst).bind fun v8 =>
 Sum.elim (fun v9=>some (.inl (v9.fst,((0,()),((),()))))) (fun v9=>some (.inr (v9.fst,((v7.snd.fst.fst,()),((),(v9.snd.fst,())))))) (v8)) else
 bif decide (v7.snd.snd.fst.do_.f=(↑199:Int)) then((BG n v7.fst v7.snd.snd.snd.fst).bind fun v8 =>
 Sum.elim (fun v9=>some (.inl (v9.fst,((0,()),((),()))))) (fun v9=>some (.inr (v9.fst,((v7.snd.fst.fst,()),((),(v9.snd.fst,())))))) (v8)) else
 bif decide (v7.snd.snd.fst.do_.f=(↑200:Int)) then((BI n v7.fst v7.snd.snd.snd.fst).bind fun v8 =>
 Sum.elim (fun v9=>some (.inl (v9.fst,((0,()),((),()))))) (fun v9=>some (.inr (v9.fst,((v7.snd.fst.fst,()),((),(v9.snd.fst,())))))) (v8)) else
 none) else
 none) (fun v7=>some (.inr (v7.fst,((v7.snd.fst.fst,()),((),(v7.snd.snd.snd.snd.snd.fst,())))))) (v6)) (fun v4=>some (.inr (g,((e,()),((),(v4.fst,())))))) (v3)) else
 (As n false 4).bind fun v3 =>
 Sum.elim (fun v4=>(H5 v0.fst 1 (↑v0.fst.length:Int)).bind fun v5 =>
 (Hb n g e (AN F7 v1.fst v2 (Dn.mk 0 (Fp.mk (-1)))) [0,0,0,0,0] v5 (↑v5.length:Int) 0).bind fun v6 =>
 Sum.elim (fun v7=>bif v7.snd.snd.snd.fst.length.beq 5 then(bif decide (v7.snd.snd.fst.do_.f=(↑189:Int)) then((Cs n v7.fst v7.snd.snd.snd.fst).bind fun v8 =>
 Sum.elim (fun v9=>some (.inl (v9.fst,((0,()),((),()))))) (fun v9=>some (.inr (v9.fst,((v7.snd.fst.fst,()),((),(v9.snd.fst,())))))) (v8)) else
 bif decide (v7.snd.snd.fst.do_.f=(↑190:Int)) then((C5 n v7.fst v7.snd.snd.snd.fst).bind fun v8 =>
 Sum.elim (fun v9=>some (.inl (v9.fst,((0,()),((),()))))) (fun v9=>some (.inr (v9.fst,((v7.snd.fst.fst,()),((),(v9.snd.fst,())))))) (v8)) else
 bif decide (v7.snd.snd.fst.do_.f=(↑191:Int)) then((Cf n v7.fst v7.snd.snd.snd.fst).bind fun v8 =>
 Sum.elim (fun v9=>some (.inl (v9.fst,((0,()),((),()))))) (fun v9=>some (.inr (v9.fst,((v7.snd.fst.fst,()),((),(v9.snd.fst,())))))) (v8)) else
 bif decide (v7.snd.snd.fst.do_.f=(↑192:Int)) then((BL n v7.fst v7.snd.snd.snd.fst).bind fun v8 =>
 Sum.elim (fun v9=>some (.inl (v9.fst,((0,()),((),()))))) (fun v9=>some (.inr (v9.fst,((v7.snd.fst.fst,()),((),(v9.snd.fst,())))))) (v8)) else
 bif decide (v7.snd.snd.fst.do_.f=(↑193:Int)) then((BT n v7.fst v7.snd.snd.snd.fst).bind fun v8 =>
 Sum.elim (fun v9=>some (.inl (v9.fst,((0,()),((),()))))) (fun v9=>some (.inr (v9.fst,((v7.snd.fst.fst,()),((),(v9.snd.fst,())))))) (v8)) else
 bif decide (v7.snd.snd.fst.do_.f=(↑194:Int)) then((Co n v7.fst v7.snd.snd.snd.fst).bind fun v8 =>
 Sum.elim (fun v9=>some (.inl (v9.fst,((0,()),((),()))))) (fun v9=>some (.inr (v9.fst,((v7.snd.fst.fst,()),((),(v9.snd.fst,())))))) (v8)) else
 bif decide (v7.snd.snd.fst.do_.f=(↑195:Int)) then((C7 n v7.fst v7.snd.snd.snd.fst).bind fun v8 =>
 Sum.elim (fun v9=>some (.inl (v9.fst,((0,()),((),()))))) (fun v9=>some (.inr (v9.fst,((v7.snd.fst.fst,()),((),(v9.snd.fst,())))))) (v8)) else
 bif decide (v7.snd.snd.fst.do_.f=(↑196:Int)) then((C8 n v7.fst v7.snd.snd.snd.fst).bind fun v8 =>
 Sum.elim (fun v9=>some (.inl (v9.fst,((0,()),((),()))))) (fun v9=>some (.inr (v9.fst,((v7.snd.fst.fst,()),((),(v9.snd.fst,())))))) (v8)) else
 bif decide (v7.snd.snd.fst.do_.f=(↑197:Int)) then((Ct n v7.fst v7.snd.snd.snd.fst).bind fun v8 =>
 Sum.elim (fun v9=>some (.inl (v9.fst,((0,()),((),()))))) (fun v9=>some (.inr (v9.fst,((v7.snd.fst.fst,()),((),(v9.snd.fst,())))))) (v8)) else
 bif decide (v7.snd.snd.fst.do_.f=(↑198:Int)) then((Bv n v7.fst v7.snd.snd.snd.fst).bind fun v8 =>
 Sum.elim (fun v9=>some (.inl (v9.fst,((0,()),((),()))))) (fun v9=>some (.inr (v9.fst,((v7.snd.fst.fst,()),((),(v9.snd.fst,())))))) (v8)) else
 bif decide (v7.snd.snd.fst.do_.f=(↑199:Int)) then((BG n v7.fst v7.snd.snd.snd.fst).bind fun v8 =>
 Sum.elim (fun v9=>some (.inl (v9.fst,((0,()),((),()))))) (fun v9=>some (.inr (v9.fst,((v7.snd.fst.fst,()),((),(v9.snd.fst,())))))) (v8)) else
 bif decide (v7.snd.snd.fst.do_.f=(↑200:Int)) then((BI n v7.fst v7.snd.snd.snd.fst).bind fun v8 =>
 Sum.elim (fun v9=>some (.inl (v9.fst,((0,()),((),()))))) (fun v9=>some (.inr (v9.fst,((v7.snd.fst.fst,()),((),(v9.snd.fst,())))))) (v8)) else
 none) else
 none) (fun v7=>some (.inr (v7.fst,((v7.snd.fst.fst,()),((),(v7.snd.snd.snd.snd.snd.fst,())))))) (v6)) (fun v4=>some (.inr (g,((e,()),((),(v4.fst,())))))) (v3)
def MI (n:Nat) (y:C.Ds Ty (A9 H1)):Option (YT Ty IJ):=Wk n y.1 y.2.1 y.2.2.1.1
def Ze9 (n:Nat):List (Nat×FQ Ty):=[(112,Zd1 n),(138,(words_b.law n)),(139,(fgarage_ask_b.law n)),(140,(fgarage_number_b.law n)),(189,(fgarage_session_found_b.law n)),(190,(fgarage_session_held_b.law n)),(191,(fgarage_session_signed_b.law n)),(192,(fgarage_session_checked_b.law n)),(193,(fgarage_session_out_b.law n)),(194,(fgarage_session_in_b.law n)),(195,(fgarage_session_sale_b.law n)),(196,(fgarage_session_sync_b.law n)),(197,(fgarage_session_close_b.law n)),(198,(fgarage_session_driver_b.law n)),(199,(fgarage_session_duty_b.law n)),(200,(fgarage_session_give_b.law n))]
theorem SH (n:Nat):JF Tryz.prog (Ze9 n):=⟨MB n,⟨words_b.ok n,⟨fgarage_ask_b.ok n,⟨fgarage_number_b.ok n,⟨fgarage_session_found_b.ok n,⟨fgarage_session_held_b.ok n,⟨fgarage_session_signed_b.ok n,⟨fgarage_session_checked_b.ok n,⟨fgarage_session_out_b.ok n,⟨fgarage_session_in_b.ok n,⟨fgarage_session_sale_b.ok n,⟨fgarage_session_sync_b.ok n,⟨fgarage_session_close_b.ok n,⟨fgarage_session_driver_b.ok n,⟨fgarage_session_duty_b.ok n,⟨fgarage_session_give_b.ok n,trivial⟩⟩⟩⟩⟩⟩⟩⟩⟩⟩⟩⟩⟩⟩⟩⟩
def Zew (n:Nat):EG Ty:=[]
theorem Wl (n:Nat) (x:C.Ds Ty (A9 Ha)):(Cv Tryz.prog 50 (BJ Tryz.prog (Ze9 n) []) (A0 (Zew n)) (BR 7 Tryz.f84) (Bp Ha x)).runK (EE 4 Ha Lz (IL n))=IL (n+1) x:=by kernel_rfl
theorem Wm (n:Nat):Bm true Tryz.prog 50 (ZdW n) (.loop (BR 7 Tryz.f84)):=FO fun x y hy=>DR (Fn:=IL) Ae Aj (fun n=>A3 Ae Aj (SH n) Eu) (fun h=>by cases h) (fun h=>by cases h) (fun n=>(Ay (fn:=Tryz.f84) (L:=Zew n) (ks:=[]) trivial (by kernel_rfl) (by kernel_rfl))) (by decide) (fun _=>rfl) Wl hy
def Zfh (n:Nat):EG Ty:=[(.loop 7,ZdW n)]
theorem Acd (n:Nat) (x:C.Ds Ty (A9 H1)):(Cv Tryz.prog 50 (BJ Tryz.prog (Ze9 n) []) (A0 (Zfh n)) (KN 2 (Bs Tryz.f84)) (Bp H1 x)).runK (FJ 2 IJ)=MI n x:=by kernel_rfl
theorem ZL (n:Nat) {x:C.Ds Ty (A9 H1)} {y:YT Ty IJ} (hy:MI n x=some y):VH true Tryz.prog 50 (KN 2 (Bs Tryz.f84)) H1 2 IJ x y:=Aei Ae Aj (A3 Ae Aj (SH n) Eu) (fun h=>by cases h) (fun h=>by cases h) (Ay (c:=KN 2 (Bs Tryz.f84)) (fn:=Tryz.f84) (L:=Zfh n) (ks:=[.loop 7]) ⟨Wm n,trivial⟩ (by kernel_rfl) (by kernel_rfl)) ((Acd n x).trans hy)
end
end Go.Proofs.YtkpgggfibljflaaGreatDoor
