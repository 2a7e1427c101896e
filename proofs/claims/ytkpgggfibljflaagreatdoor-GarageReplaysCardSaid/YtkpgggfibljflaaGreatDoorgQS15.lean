/- What a proof leans on: a machine that steps through code, and what functions compute. -/
import Derived.Test.YtkpgggfibljflaaGreatDoorgQS14
import Derived.Laws.IdiomRangeMap
import Derived.LoopTactic
import Derived.Maps.RangeRun
set_option linter.all false
set_option maxRecDepth 100000
namespace Go.Proofs.YtkpgggfibljflaaGreatDoor
open Go Go.RowKit Go.Proofs Go.Shelf
open Rep (rep)
set_option maxHeartbeats 1000000
def Yw (c d:Ap):Bool:=!(c.bus != d.bus || decide (c.minute<d.minute)) && (c.kind.n == 2 && c.sg == d.number || c.kind.n == 3 && d.kind.n == 0)
def AbY (x:Ap):List Value:=[.int .i64 x.bus,.int .i64 x.number,.int .i64 x.minute,.int .u8 x.kind.n,.int .i64 x.part,.int .i64 x.sg]
theorem EO {B:Nat} {w w':World} (h:Below B w w') (hB:B≤w.heap.size) (o:Obj):Below B w (w'.alloc o):=by
 have hs:=h.size
 refine⟨h.os,h.tape,h.output,by unfold World.alloc; simp; omega,fun k hk=>?_⟩
 rw [← h.block k hk]
 unfold World.alloc
 simp only [ZaZ]
 rw [if_neg (by omega)]
theorem Ud (c1 c2 c3 c4 c5 c6 d1 d2 d3 d4 d5 d6:Int) (W:World):Calls Tryz.prog 162 #[.agg #[.int .i64 c1,.int .i64 c2,.int .i64 c3,.int .u8 c4,.int .i64 c5,.int .i64 c6],.agg #[.int .i64 d1,.int .i64 d2,.int .i64 d3,.int .u8 d4,.int .i64 d5,.int .i64 d6]] W fun e w'=>e=.returned (.bool (!(c1 != d1 || decide (c3<d3)) && (c4 == 2 && c6 == d2 || c4 == 3 && d4 == 0)))∧Below W.heap.size W w':=by
 have hB:∀ o1 o2,Below W.heap.size W ((W.alloc o1).alloc o2):=fun o1 o2=>EO (EO (Below.refl _ _) (Zal _) o1) (Zal _) o2
 go_enter Tryz.func162,Tryz.ntmps162
 go_wp2
 all_goals simp_all [bodyPost,results,Tryz.results162,go_sem]
theorem ZK (es:Array MapEntry) (seen:Array Nat) (b:Nat):(leftOf es (seen.push b)).toList=(leftOf es seen).toList.filter fun e=>!(e.born == b):=by
 unfold leftOf
 rw [Array.toList_filter,Array.toList_filter,List.filter_filter]
 congr 1
 funext e
 simp only [Array.contains_push]
 cases seen.contains e.born <;> cases hb:(e.born == b) <;> simp_all
theorem AbZ (es:Array MapEntry) (seen:Array Nat) (hnd:(es.toList.map (·.born)).Nodup) (f:MapEntry→Bool) {e:MapEntry} (he:e∈(leftOf es seen).toList):(leftOf es seen).toList.all f=(f e && (leftOf es (seen.push e.born)).toList.all f):=by
 rw [ZK,Bool.eq_iff_iff]
 simp only [ZaE,Zax,Zbw]
 constructor
 · exact fun h=>⟨h e he,fun x hx=>h x hx.1⟩
 · rintro⟨h1,h2⟩ x hx
   by_cases hb:x.born=e.born
   · have q1:=find_born e es.toList hnd (mem_left he).1
     have q2:=find_born x es.toList hnd (mem_left hx).1
     rw [hb,q1] at q2
     cases q2
     exact h1
   · exact h2 x ⟨hx,by simpa using hb⟩
theorem X6 (b0 bm:Nat) (es:Array MapEntry) (clock:Nat) (d1 d2 d3 d4 d5 d6 at_:Int) (w:World) (h0:w.cell? ⟨b0,0,none⟩=some (.map (some bm))) (hbm:w.heap[bm]? = some (.map es clock)) (hold:∀ x∈es.toList,x.born<clock) (hnd:(es.toList.map (·.born)).Nodup) (Z0:MapEntry→Bool)
  (hok:∀ x∈es.toList,∃ c1 c2 c3 c4 c5 c6:Int,x.val=.agg #[.int .i64 c1,.int .i64 c2,.int .i64 c3,.int .u8 c4,.int .i64 c5,.int .i64 c6]∧Z0 x=!(decide (c3≤at_) && (!(c1 != d1 || decide (c3<d3)) && (c4 == 2 && c6 == d2 || c4 == 3 && d4 == 0)))) :
  Calls Tryz.prog 109 #[.pointer (some ⟨b0,0,none⟩),.agg #[.int .i64 d1,.int .i64 d2,.int .i64 d3,.int .u8 d4,.int .i64 d5,.int .i64 d6],.int .i64 at_] w fun e w'=>e=.returned (.bool (!decide (at_<d3) && es.toList.all Z0))∧Below w.heap.size w w':=by
 have hb0:b0<w.heap.size:=by
  rcases Za2 b0 w.heap.size with h | h
  · exact h
  · simp [World.cell?,Array.getElem?_eq_none h] at h0
 have hbl:=(Zag.1 hbm).1
 have hrg:=run_range_map (P:=Tryz.prog) (w.alloc (.cells #[.int .i64 d1,.int .i64 d2,.int .i64 d3,.int .u8 d4,.int .i64 d5,.int .i64 d6] 180)) 197 3 180 bm es clock Tryz.underlying197 (by unfold World.alloc; simp only [ZaZ]; rw [if_neg (by omega)]; exact hbm)
 have hh0:(w.alloc (.cells #[.int .i64 d1,.int .i64 d2,.int .i64 d3,.int .u8 d4,.int .i64 d5,.int .i64 d6] 180)).cell? ⟨b0,0,none⟩=some (.map (some bm)):=Lib.cell?_alloc_some _ h0
 have hmend:=Ud
 go_enter Tryz.func109,Tryz.ntmps109
 go_wp2
 · go_ret
   exact⟨by simp_all,EO (Below.refl _ _) (Zal _) _⟩
 · have hinit:∃ seen,Below w.heap.size w ((w.alloc (.cells #[.int .i64 d1,.int .i64 d2,.int .i64 d3,.int .u8 d4,.int .i64 d5,.int .i64 d6] 180)).alloc (.mapIter (some bm) clock #[] clock))∧((w.alloc (.cells #[.int .i64 d1,.int .i64 d2,.int .i64 d3,.int .u8 d4,.int .i64 d5,.int .i64 d6] 180)).alloc (.mapIter (some bm) clock #[] clock)).heap[w.heap.size]? = some (.cells #[.int .i64 d1,.int .i64 d2,.int .i64 d3,.int .u8 d4,.int .i64 d5,.int .i64 d6] 180)∧((w.alloc (.cells #[.int .i64 d1,.int .i64 d2,.int .i64 d3,.int .u8 d4,.int .i64 d5,.int .i64 d6] 180)).alloc (.mapIter (some bm) clock #[] clock)).heap[w.heap.size+1]? = some (.mapIter (some bm) clock seen clock)∧es.toList.all Z0=(leftOf es seen).toList.all Z0 :=
    ⟨#[],EO (EO (Below.refl _ _) (Zal _) _) (Zal _) _,by unfold World.alloc; simp only [ZaZ,Array.size_push]; rw [if_neg (by omega),if_pos trivial],by unfold World.alloc; simp only [ZaZ,Array.size_push]; rw [if_pos trivial],by unfold leftOf; simp⟩
   generalize ((w.alloc (.cells #[.int .i64 d1,.int .i64 d2,.int .i64 d3,.int .u8 d4,.int .i64 d5,.int .i64 d6] 180)).alloc (.mapIter (some bm) clock #[] clock))=W0 at hinit ⊢
   clear hrg hh0 h0
   go_loopw [] (fun wr=>∃ seen,Below w.heap.size w wr∧wr.heap[w.heap.size]? = some (.cells #[.int .i64 d1,.int .i64 d2,.int .i64 d3,.int .u8 d4,.int .i64 d5,.int .i64 d6] 180)∧wr.heap[w.heap.size+1]? = some (.mapIter (some bm) clock seen clock)∧es.toList.all Z0=(leftOf es seen).toList.all Z0) (fun wr=>(leftOf es (wr.iterSeen (w.heap.size+1))).size)
   case atStart=>exact hinit
   case round =>
    obtain⟨seen,hB,hbox,hit,hal⟩:=hrel
    rename_i wr
    have hbr:wr.heap[bm]? = some (.map es clock):=(hB.block bm hbl).trans hbm
    rcases run_next_at (P:=Tryz.prog) wr 0 (w.heap.size+1) bm clock clock seen es clock hit hbr hold (Zal _) with⟨hz,hrun⟩ | ⟨e,he,w1,hw1,hrun⟩
    · have hnx:∀ ty,(Instr.next (.pointer (some ⟨w.heap.size+1,0,none⟩)) false ty).run Tryz.prog wr=.ok (.tuple #[.bool false]) wr:=fun _=>hrun
      go_wp2
      go_ret
      have hnil:(leftOf es seen).toList=[]:=Za3 (by simpa using hz)
      have hd:decide (at_<d3)=false:=by simp; omega
      exact⟨by rw [hal,hnil,hd]; rfl,hB⟩
    · have hmem:=mem_left he
      obtain⟨c1,c2,c3,c4,c5,c6,hval,hoke⟩:=hok e hmem.1
      rw [hval] at hrun
      obtain⟨W2,hW2⟩:∃ W2,W2=Go.ChangeMaps.setBlock w1 (w.heap.size+1) (.mapIter (some bm) clock (seen.push e.born) clock):=⟨_,rfl⟩
      rw [← hW2] at hrun
      have hg1:w1.heap=wr.heap∧w1.os=wr.os∧w1.tape=wr.tape∧w1.output=wr.output:=by rcases hw1 with rfl | rfl <;> exact⟨rfl,rfl,rfl,rfl⟩
      have hgr:w1.grownBy W2 (some (w.heap.size+1)):=hW2▸GK w1 _ _
      have hit2:W2.heap[w.heap.size+1]? = some (.mapIter (some bm) clock (seen.push e.born) clock):=by rw [hW2]; exact NR (o':=.mapIter (some bm) clock seen clock) (by rw [hg1.1]; exact hit)
      have hsz:=hB.size
      have hrl:=(Zag.1 hit).1
      have hbox2:W2.heap[w.heap.size]? = some (.cells #[.int .i64 d1,.int .i64 d2,.int .i64 d3,.int .u8 d4,.int .i64 d5,.int .i64 d6] 180):=by
       rw [hgr.block _ (by rw [hg1.1]; omega) (by simp),hg1.1]; exact hbox
      have hB2:Below w.heap.size w W2:=⟨hgr.os.trans (hg1.2.1.trans hB.os),hgr.tape.trans (hg1.2.2.1.trans hB.tape),hgr.output.trans (hg1.2.2.2.trans hB.output),ZaF hsz (by rw [← hg1.1]; exact hgr.size),fun k hk=>by rw [hgr.block k (by rw [hg1.1]; omega) (by simp; omega),hg1.1]; exact hB.block k hk⟩
      have hbr2:W2.heap[bm]? = some (.map es clock):=(hB2.block bm hbl).trans hbm
      have hent:(Instr.entry (.pointer (some ⟨w.heap.size+1,0,none⟩))).run Tryz.prog W2=.ok (.tuple #[e.key,.agg #[.int .i64 c1,.int .i64 c2,.int .i64 c3,.int .u8 c4,.int .i64 c5,.int .i64 c6]]) W2:=by
       rw [← hval]; exact run_entry_at W2 _ bm clock seen es clock e hit2 hbr2 hmem.1 hnd
      have hnx:∀ ty,(Instr.next (.pointer (some ⟨w.heap.size+1,0,none⟩)) false ty).run Tryz.prog wr=.ok (.tuple #[.bool true,e.key,.agg #[.int .i64 c1,.int .i64 c2,.int .i64 c3,.int .u8 c4,.int .i64 c5,.int .i64 c6]]) W2:=fun _=>hrun
      have hl2:=(Zag.1 hit2).1
      have hcs:∀ k v,(#[Value.int .i64 d1,.int .i64 d2,.int .i64 d3,.int .u8 d4,.int .i64 d5,.int .i64 d6]:Array Value)[k]? = some v→W2.cell? ⟨w.heap.size,k,none⟩=some v:=fun k v hk=>by
       unfold World.cell?; simp only [hbox2]; exact hk
      have hc0:=hcs 0 _ rfl
      have hc1:=hcs 1 _ rfl
      have hc2:=hcs 2 _ rfl
      have hc3:=hcs 3 _ rfl
      have hc4:=hcs 4 _ rfl
      have hc5:=hcs 5 _ rfl
      have hleft:=left_shrinks es seen e he
      have hall:(leftOf es seen).toList.all Z0=(Z0 e && (leftOf es (seen.push e.born)).toList.all Z0):=AbZ es seen hnd Z0 he
      have hd0:=Lib.cell?_alloc_some (.cells #[.int .i64 c1,.int .i64 c2,.int .i64 c3,.int .u8 c4,.int .i64 c5,.int .i64 c6] 180) hc0
      have hd1:=Lib.cell?_alloc_some (.cells #[.int .i64 c1,.int .i64 c2,.int .i64 c3,.int .u8 c4,.int .i64 c5,.int .i64 c6] 180) hc1
      have hd2:=Lib.cell?_alloc_some (.cells #[.int .i64 c1,.int .i64 c2,.int .i64 c3,.int .u8 c4,.int .i64 c5,.int .i64 c6] 180) hc2
      have hd3:=Lib.cell?_alloc_some (.cells #[.int .i64 c1,.int .i64 c2,.int .i64 c3,.int .u8 c4,.int .i64 c5,.int .i64 c6] 180) hc3
      have hd4:=Lib.cell?_alloc_some (.cells #[.int .i64 c1,.int .i64 c2,.int .i64 c3,.int .u8 c4,.int .i64 c5,.int .i64 c6] 180) hc4
      have hd5:=Lib.cell?_alloc_some (.cells #[.int .i64 c1,.int .i64 c2,.int .i64 c3,.int .u8 c4,.int .i64 c5,.int .i64 c6] 180) hc5
      have hB3:Below w.heap.size w (W2.alloc (.cells #[.int .i64 c1,.int .i64 c2,.int .i64 c3,.int .u8 c4,.int .i64 c5,.int .i64 c6] 180)):=EO hB2 (Zal _) _
      have hs3:W2.heap.size<(W2.alloc (.cells #[.int .i64 c1,.int .i64 c2,.int .i64 c3,.int .u8 c4,.int .i64 c5,.int .i64 c6] 180)).heap.size:=by unfold World.alloc; simp
      have hbox3:(W2.alloc (.cells #[.int .i64 c1,.int .i64 c2,.int .i64 c3,.int .u8 c4,.int .i64 c5,.int .i64 c6] 180)).heap[w.heap.size]? = some (.cells #[.int .i64 d1,.int .i64 d2,.int .i64 d3,.int .u8 d4,.int .i64 d5,.int .i64 d6] 180):=by
       unfold World.alloc; simp only [ZaZ]; rw [if_neg (by omega)]; exact hbox2
      have hit3:(W2.alloc (.cells #[.int .i64 c1,.int .i64 c2,.int .i64 c3,.int .u8 c4,.int .i64 c5,.int .i64 c6] 180)).heap[w.heap.size+1]? = some (.mapIter (some bm) clock (seen.push e.born) clock):=by
       unfold World.alloc; simp only [ZaZ]; rw [if_neg (by omega)]; exact hit2
      have hsn:∀ W:World,W.heap[w.heap.size+1]? = some (.mapIter (some bm) clock (seen.push e.born) clock)→W.iterSeen (w.heap.size+1)=seen.push e.born:=fun W h=>by unfold World.iterSeen; rw [h]
      have hsn0:wr.iterSeen (w.heap.size+1)=seen:=by unfold World.iterSeen; rw [hit]
      have hm2:=hmend c1 c2 c3 c4 c5 c6 d1 d2 d3 d4 d5 d6
      generalize hq:(!(c1 != d1 || decide (c3<d3)) && (c4 == 2 && c6 == d2 || c4 == 3 && d4 == 0))=q at hoke hm2
      clear hq
      have hN:w.heap.size+1<W2.heap.size:=hl2
      clear hrun hcs hgr hg1 hW2 hw1 hmend hval hc0 hc1 hc2 hc3 hc4 hc5
      go_wp2_with (go_at_call 162; refine(hm2 _).mono ?_; rintro e4 W4 ⟨rfl,hB4⟩)
      all_goals (try have hB4':Below w.heap.size w W4:=hB3.trans ⟨hB4.os,hB4.tape,hB4.output,hB4.size,fun k hk=>hB4.block k (Zai hk hB3.size)⟩)
      · rename_i hle hqt
        go_ret
        refine⟨?_,hB4'⟩
        rw [hal,hall,hoke,hqt,Zak hle]
        simp
      · rename_i hle hqt
        have e1:W4.heap[w.heap.size+1]? = some (.mapIter (some bm) clock (seen.push e.born) clock):=by rw [hB4.block _ (by omega)]; exact hit3
        refine⟨⟨seen.push e.born,hB4',by rw [hB4.block _ (by omega)]; exact hbox3,e1,?_⟩,by rw [hsn _ e1,hsn0]; exact hleft⟩
        rw [hal,hall,hoke,hqt]
        simp
      · rename_i hle
        refine⟨⟨seen.push e.born,hB3,hbox3,hit3,?_⟩,by rw [hsn _ hit3,hsn0]; exact hleft⟩
        rw [hal,hall,hoke,Zah (by omega)]
        simp
def Rf (m:List (Int×Ap)) (d:Ap) (at_:Int):Bool:=!decide (at_<d.minute) && m.all fun p=>!(decide (p.2.minute≤at_) && Yw p.2 d)
def IE:List (Nat×C):=[(0,.p 0 [.m 3 180,.l 3]),(1,.g 180),(2,.s 3)]
def Adn:List Wo:=[⟨.ret,[.p 0 [.m 3 180,.l 3],.q 1],[],[.s 4]⟩]
def Yx (n:Nat) (m:List (Int×Ap)) (cl:List Int) (d:Ap) (at_:Int):Option ((((List (Int×Ap))×List Int×Unit)×Unit×Bool×Unit)):=some ((m,cl,()),(),Rf m d at_,())
noncomputable def ZeK (n:Nat):FQ Ty:=ET IE 2 Adn fun y=>Yx n y.1.1 y.1.2.1 y.2.1 y.2.2.1
def Afg (d:Ap) (at_:Int):Value→Bool
 | .agg cs=>match cs.toList with
  | [.int _ c1,.int _ c2,.int _ c3,.int _ c4,.int _ c5,.int _ c6]=>!(decide (c3≤at_) && Yw ⟨c1,c2,c3,⟨c4⟩,c5,c6⟩ d)
  | _=>true
 | _=>true
theorem Aca {h:Ad} {x:Ap} {cs:List Value}:rep h x cs→cs=AbY x:=by
 rintro⟨c1,c2,rfl,rfl,c3,c4,rfl,rfl,c5,c6,rfl,rfl,c7,c8,rfl,rfl,c9,c10,rfl,rfl,rfl⟩
 rfl
theorem Yy (d:Ap) (at_:Int) (x:Ap):Afg d at_ (.agg (AbY x).toArray)=!(decide (x.minute≤at_) && Yw x d):=rfl
theorem X7 {h:Ad} {es:List MapEntry} {c:Nat} {m:List (Int×Ap)} (H:Se (Ty:=Ty) h es c 3 180 m):(∀ x∈es,x.born<c)∧(es.map (·.born)).Nodup∧HQ (fun(e:MapEntry)(p:Int×Ap)=>e.val=.agg (AbY p.2).toArray) es m:=by
 obtain⟨hk,H⟩:=H
 letI:KRep (Ty 3):=Te hk
 letI:VRep (Ty 180):=Ru Ty 180
 refine⟨H.lt,H.born,H.all.imp ?_⟩
 rintro e p ⟨_,h2⟩
 have h2:∃ us,e.val=.agg us.toArray∧rep h (p.2:Ap) us:=by
  have:(if UM.ag Ty 180=true then ∃ us,e.val=.agg us.toArray∧rep h p.2 us else rep h p.2 [e.val]):=h2
  rw [if_pos (by kernel_rfl)] at this
  exact this
 obtain⟨us,e1,e2⟩:=h2
 rw [e1,Aca e2]
theorem SG (d:Ap) (at_:Int):∀ {es:List MapEntry} {m:List (Int×Ap)},HQ (fun(e:MapEntry)(p:Int×Ap)=>e.val=.agg (AbY p.2).toArray) es m→(es.all fun e=>Afg d at_ e.val)=(m.all fun p=>!(decide (p.2.minute≤at_) && Yw p.2 d))∧∀ x∈es,∃ c:Ap,x.val=.agg (AbY c).toArray
 | _,_,.nil=>⟨rfl,fun x hx=>by cases hx⟩
 | _,_,.cons h1 h2=>by
  obtain⟨q1,q2⟩:=SG d at_ h2
  refine⟨?_,fun x hx=>?_⟩
  · simp only [ZaT]
    rw [q1,h1,Yy]
  · rcases Zam.1 hx with rfl | hx
    · exact⟨_,h1⟩
    · exact q2 x hx
theorem Wg (n:Nat):AX Tryz.prog 109 (ZeK n):=HY rfl fun x y hy F h g w vals R hm hin hd fin=>by
 obtain⟨⟨m,cl,⟨⟩⟩,d,at_,⟨⟩⟩:=x
 change List (Int×Ap) at m
 change List Int at cl
 change Ap at d
 change Int at at_
 change some (((m,cl,()),(),Rf m d at_,()):((List (Int×Ap))×List Int×Unit)×Unit×Bool×Unit)=some y at hy
 change V.dens g h [.ptr 0 0,.agg [.int .i64 d.bus,.int .i64 d.number,.int .i64 d.minute,.int .u8 d.kind.n,.int .i64 d.part,.int .i64 d.sg],.int .i64 at_] vals at hd
 have r0:AL.get (Bp (Ty:=Ty) IE (show C.Ds Ty (A9 IE) from(((m:List (Int×Ap)),(cl:List Int),()),d,(at_:Int),()))).s 0=some (.blk 0 [.mp 1,.lst 3 cl]):=rfl
 have r1:AL.get (Bp (Ty:=Ty) IE (show C.Ds Ty (A9 IE) from(((m:List (Int×Ap)),(cl:List Int),()),d,(at_:Int),()))).s 1=some (.mp 3 180 m):=rfl
 obtain⟨_,us,T,b1,b2,_⟩:=hm.cell 0 _ r0
 obtain⟨_,es,c,m1,m2⟩:=hm.cell 1 _ r1
 obtain⟨n1,n2,n3⟩:=X7 m2
 unfold V.dens at b2
 obtain⟨u1,ur,rfl,b3,_⟩:=b2
 unfold V.den at b3
 subst b3
 unfold V.dens V.dens at hd
 obtain⟨v1,vr,e1,h1,v2,vr2,e2,h2,h3⟩:=hd
 obtain⟨v3,e3,h4⟩:=D5 h3
 unfold V.den at h1 h2
 obtain⟨us2,h2a,h2b⟩:=h2
 obtain⟨w1,f1,h2b⟩:=D5 h2b
 obtain⟨w2,f2,h2b⟩:=D5 h2b
 obtain⟨w3,f3,h2b⟩:=D5 h2b
 obtain⟨w4,f4,h2b⟩:=D5 h2b
 obtain⟨w5,f5,h2b⟩:=D5 h2b
 obtain⟨w6,f6,h2b⟩:=D5 h2b
 rw [e1,e2,e3,C4 h4,h1,h2a,f1,f2,f3,f4,f5,f6,C4 h2b]
 obtain⟨a1,a2⟩:=SG d at_ n3
 refine(X6 (g 0).b (g 1).b es c d.bus d.number d.minute d.kind.n d.part d.sg at_ w (by unfold World.cell?; simp only [b1]; rfl) m1 n1 n2 (fun e=>Afg d at_ e.val) (fun x hx=>?_)).mono ?_
 · obtain⟨q,hq⟩:=a2 x hx
   exact⟨q.bus,q.number,q.minute,q.kind.n,q.part,q.sg,hq,by rw [hq,Yy]; rfl⟩
 · rintro e w' ⟨rfl,hB⟩
   rw [a1]
   refine fin F h g w' ⟨[],(Bp (Ty:=Ty) IE (show C.Ds Ty (A9 IE) from(((m:List (Int×Ap)),(cl:List Int),()),d,(at_:Int),()))).s,2000⟩ false [.bool (Rf m d at_)] [.bool (Rf m d at_)] rfl (FD.refl F []) (Ad.le_refl h) (fun _ _=>rfl) (by show 2000≤2000; omega) (hm.grow (Dp hB)) hin ?_ (HZ (by unfold V.den; rfl)) rfl
   rw [← hy]; kernel_rfl
end Go.Proofs.YtkpgggfibljflaaGreatDoor
