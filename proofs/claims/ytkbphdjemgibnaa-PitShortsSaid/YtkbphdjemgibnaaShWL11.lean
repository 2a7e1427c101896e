/- Each call computes its plain function. -/
import Derived.Test.YtkbphdjemgibnaaProg
import Derived.Test.YtkbphdjemgibnaaShP0
import Derived.Test.YtkbphdjemgibnaaShWC
import Derived.Test.YtkbphdjemgibnaaShWU
import Derived.Test.YtkbphdjemgibnaaShWW
set_option linter.all false
namespace Go.Proofs.Ytkbphdjemgibnaa
open Go Go.RowKit
open Rep (rep)
open KRep (kv)
open VRep (rv)
abbrev K11c1 (a : Option Addr) (s : Shop) (e : Nat) (b : Option Addr) (f : Nat) : List SC := [.slice a s.buses.length e, .int .i64 s.days, .slice b s.pits.length f]
abbrev K11m2 (x21 : Int × Int) : TM := [(tI 4 x21.2), (tI 3 x21.1), (tP 1 0 0)]
set_option maxRecDepth 100000 in
set_option maxHeartbeats 4000000 in
theorem law_PitShorts_ok (n : Nat) {h : Heap} {w : World} (hh : Has h w) (s : Shop) {cs_s : List Value} (hx_s : rep h s cs_s) {r : Bool} (H : law_PitShorts n s = some r) :
  Calls Try.prog 11 #[.agg cs_s.toArray] w (Ret (fun h v => v = .bool r) h w) := by
 obtain ⟨_, _, rfl, ⟨a, e, rfl, g⟩, ⟨_, _, rfl, rfl, ⟨b, f, rfl, i⟩⟩⟩ := hx_s
 refine enter 43 [.agg (K11c1 a s e b f)] Try.func11 rfl rfl rfl rfl fun t hk => ?_
 have hm := Mem.begin h w hh
 unfold law_PitShorts at H
 refine wp_seq (wp_region_from (wl fun K hK => ?_))
 refine wb (.agg (K11c1 a s e b f)) hk hm fun d ch cj (bh : Kn 43 [(d, 0)] [(tP 1 0 0), (tA 0 (K11c1 a s e b f))] ch) (o : Mem ⟨w, h, noX⟩ h [(d, 0)] [⟨(K11c1 a s e b f), some 74⟩] [] cj) => hK _ _ ?_
 refine Rk 1 1 [(tP 1 0 0)] bh o fun cq bq => ?_
 refine wf (wp_seq (wp_seq ?_))
 obtain ⟨an, ad, H⟩ := bnd H
 refine wp_mid' (fun a' w' => ∃ (ao : Array Value) (ae : Heap), a' = ⟨ao, []⟩ ∧ Kn 43 [(d, 0)] [(tP 1 0 0), (tB 16 an)] ao ∧ Mem ⟨w, h, noX⟩ ae [(d, 0)] [⟨(K11c1 a s e b f), some 74⟩] [] w' ∧ Heap.le h ae) ?_ ?_
 ·
  refine wp_region_from (Rk 0 5 [(tB 11 (decide (((s.buses.length : Nat) : Int) > 12))), (tP 1 0 0)] bq o fun a8 aw => ?_)
  rcases Bool.eq_false_or_eq_true (decide (((s.buses.length : Nat) : Int) > 12)) with u | u
  ·
   rw [u, cond_true] at ad
   have bs : Kn 43 [(d, 0)] [(tB 11 true), (tP 1 0 0)] a8 := (aw.setB 11 true (by rfl) u).kp
   refine Rk 5 5 [(tB 16 true), (tP 1 0 0)] bs o fun cu bt => ?_
   refine wf ?_
   obtain rfl := Option.some.inj ad
   exact Exists.intro _ ⟨_, rfl, bt.kp, o, (Heap.le_refl _)⟩
  ·
   rw [u, cond_false] at ad
   have bu : Kn 43 [(d, 0)] [(tB 11 false), (tP 1 0 0)] a8 := (aw.setB 11 false (by rfl) u).kp
   refine Rk 5 5 [(tB 16 (decide (((s.pits.length : Nat) : Int) > 20))), (tP 1 0 0)] bu o fun cv bv => ?_
   refine wf ?_
   obtain rfl := Option.some.inj ad
   exact Exists.intro _ ⟨_, rfl, bv.kp, o, (Heap.le_refl _)⟩
 ·
  rintro _ de ⟨ao, ae, rfl, al, x, ay⟩
  replace g := g.mono ay
  replace i := i.mono ay
  refine wC (an) al (fun ai => ?_) (fun ai => ?_)
  ·
   rw [ai, cond_true] at H
   refine wp_seq (wp_region_from ?_)
   obtain ⟨x17, ex17, H⟩ := bnd H
   refine wl fun K hK => ?_
   refine wc [] al x (law_wakes_ok n x.has  ex17) fun c7 cl df ba co a4 => ?_
   obtain rfl := ba
   refine ⟨.one (.c (.bool x17)), rfl, fun cd (bw : Kn 43 [(d, 0)] [(tB 17 x17), (tP 1 0 0), (tB 16 an)] cd) => hK _ _ ?_⟩
   refine Rk 1 1 [(tB 2 x17)] bw a4 fun cw bx => ?_
   refine wf (wp_ret ?_)
   obtain rfl := Option.some.inj H
   exact rt (.one (.c (.bool x17))) bx a4 rfl
  ·
   rw [ai, cond_false] at H
   refine wp_skip (wp_seq (wp_region_from (Rk 0 1 [(tA 19 (K11c1 a s e b f)), (tP 1 0 0)] al x fun cx bz => ?_)))
   obtain ⟨x20, ex20, H⟩ := bnd H
   refine wl fun K hK => ?_
   refine wc [.agg (K11c1 a s e b f)] bz x (law_Shop_ok n x.has s ((rep_pair (rep_slice g) (rep_pair rep_int (rep_slice i))) : rep ae s _) ex20) fun c8 bf dg bb az a5 => ?_
   obtain ⟨_, rfl, ⟨_, _, rfl, ⟨z, ab, rfl, ca⟩, ⟨_, _, rfl, rfl, ⟨aa, ac, rfl, cb⟩⟩⟩⟩ := bb
   refine ⟨.one (.agg [.slice z x20.buses.length ab, .int .i64 x20.days, .slice aa x20.pits.length ac]), rfl, fun ce (b0 : Kn 43 [(d, 0)] [(tA 20 [.slice z x20.buses.length ab, .int .i64 x20.days, .slice aa x20.pits.length ac]), (tA 19 (K11c1 a s e b f)), (tP 1 0 0)] ce) => hK _ _ ?_⟩
   obtain ⟨x21, ex21, H⟩ := bnd H
   refine wl fun K hK => ?_
   refine wc [.agg [.slice z x20.buses.length ab, .int .i64 x20.days, .slice aa x20.pits.length ac]] b0 a5 (pit_Short_ok n a5.has x20 ((rep_pair (rep_slice ca) (rep_pair rep_int (rep_slice cb))) : rep bf x20 _) ex21) fun c9 bg dh bc a0 af => ?_
   replace g := g.mono (Heap.le_trans az a0)
   replace i := i.mono (Heap.le_trans az a0)
   obtain ⟨_, _, rfl, rfl, rfl⟩ := bc
   refine ⟨.tup [.c (.int .i64 x21.1), .c (.int .i64 x21.2)], rfl, fun cf (b1 : Kn 43 [(d, 0)] [(21, .tup [.c (.int .i64 x21.1), .c (.int .i64 x21.2)]), (tA 20 [.slice z x20.buses.length ab, .int .i64 x20.days, .slice aa x20.pits.length ac]), (tA 19 (K11c1 a s e b f)), (tP 1 0 0)] cf) => hK _ _ ?_⟩
   refine Rk 3 5 (K11m2 x21) b1 af fun cy b2 => ?_
   refine wf (wp_seq (wp_region_from (Rk 0 1 ((tA 24 (K11c1 a s e b f)) :: (K11m2 x21)) b2 af fun cz b3 => ?_)))
   obtain ⟨x25, ex25, H⟩ := bnd H
   refine wl fun K hK => ?_
   refine wc [.agg (K11c1 a s e b f)] b3 af (ref_ShopFault_ok n af.has s ((rep_pair (rep_slice g) (rep_pair rep_int (rep_slice i))) : rep bg s _) ex25) fun da aq di bd a1 m => ?_
   replace g := g.mono a1
   replace i := i.mono a1
   obtain rfl := bd
   refine ⟨.one (.c (.int .i64 x25)), rfl, fun cg (b4 : Kn 43 [(d, 0)] ((tI 25 x25) :: (tA 24 (K11c1 a s e b f)) :: (K11m2 x21)) cg) => hK _ _ ?_⟩
   refine Rk 2 1 ((tI 5 x25) :: (K11m2 x21)) b4 m fun c0 b5 => ?_
   refine wf (wp_seq (wp_region_from (Rk 0 1 ((tI 6 0) :: (tI 5 x25) :: (K11m2 x21)) b5 m fun c1 b6 => ?_)))
   refine wf (wp_seq (wp_seq (wp_region_from (Rk 0 2 ((tB 27 (x25 == 0)) :: (tI 6 0) :: (tI 5 x25) :: (K11m2 x21)) b6 m fun c2 am => ?_))))
   refine wf ?_
   obtain ⟨k, j, H⟩ := bnd H
   refine wp_mid' (fun a' w' => ∃ (ap : Array Value) (ag : Heap), a' = ⟨ap, []⟩ ∧ Kn 43 [(d, 0)] [(tI 6 k.1), (tI 5 k.2), (tI 4 x21.2), (tI 3 x21.1)] ap ∧ Mem ⟨w, h, noX⟩ ag [(d, 0)] [⟨(K11c1 a s e b f), some 74⟩] [] w' ∧ Heap.le aq ag) ?_ ?_
   ·
    refine wC ((x25 == 0)) am (fun aj => ?_) (fun aj => ?_)
    ·
     rw [aj, cond_true] at j
     refine wp_seq (wp_region_from (Rk 0 1 [(tA 28 (K11c1 a s e b f)), (tI 5 x25), (tI 4 x21.2), (tI 3 x21.1)] am m fun c3 b7 => ?_))
     obtain ⟨x29, ex29, j⟩ := bnd j
     refine wl fun K hK => ?_
     refine wc [.agg (K11c1 a s e b f)] b7 m (ref_Short_ok n m.has s ((rep_pair (rep_slice g) (rep_pair rep_int (rep_slice i))) : rep aq s _) ex29) fun db cm dj be a2 y => ?_
     obtain rfl := be
     refine ⟨.one (.c (.int .i64 x29)), rfl, fun ci (b8 : Kn 43 [(d, 0)] [(tI 29 x29), (tA 28 (K11c1 a s e b f)), (tI 5 x25), (tI 4 x21.2), (tI 3 x21.1)] ci) => hK _ _ ?_⟩
     refine Rk 2 1 [(tI 6 x29), (tI 5 x25), (tI 4 x21.2), (tI 3 x21.1)] b8 y fun c4 b9 => ?_
     refine wf (wp_seq (wp_region_from (Rk 0 2 [(tB 31 (decide (x29 < 0))), (tI 6 x29), (tI 5 x25), (tI 4 x21.2), (tI 3 x21.1)] b9 y fun c5 ak => ?_)))
     refine wf (wC (decide (x29 < 0)) ak (fun ah => ?_) (fun ah => ?_))
     ·
      rw [ah, cond_true] at j
      refine wp_region_from (Rk 0 2 [(tI 6 0), (tI 5 7), (tI 4 x21.2), (tI 3 x21.1)] ak y fun cp bi => ?_)
      refine wf ?_
      obtain rfl := Option.some.inj j
      exact Exists.intro _ ⟨_, rfl, bi.kp, y, a2⟩
     ·
      rw [ah, cond_false] at j
      refine wp_skip ?_
      obtain rfl := Option.some.inj j
      exact Exists.intro _ ⟨_, rfl, ak.kp, y, a2⟩
    ·
     rw [aj, cond_false] at j
     refine wp_skip ?_
     obtain rfl := Option.some.inj j
     exact Exists.intro _ ⟨_, rfl, am.kp, m, (Heap.le_refl _)⟩
   ·
    rintro _ dc ⟨ap, ag, rfl, bj, l, ax⟩
    replace g := g.mono ax
    replace i := i.mono ax
    refine wp_seq (wp_region_from (Rk 0 4 [(tB 35 (x21.2 == k.2)), (tI 6 k.1), (tI 3 x21.1)] bj l fun a6 ar => ?_))
    rcases Bool.eq_false_or_eq_true ((x21.2 == k.2)) with p | p
    ·
     rw [p, cond_true] at H
     have bk : Kn 43 [(d, 0)] [(tB 35 true), (tI 6 k.1), (tI 3 x21.1)] a6 := (ar.setB 35 true (by rfl) p).kp
     refine Rk 4 5 [(tB 40 (x21.1 == k.1))] bk l fun a7 au => ?_
     rcases Bool.eq_false_or_eq_true ((x21.1 == k.1)) with q | q
     ·
      rw [q, cond_true] at H
      have av : Kn 43 [(d, 0)] [(tB 40 true)] a7 := (au.setB 40 true (by rfl) q).kp
      obtain ⟨x41, ex41, H⟩ := bnd H
      refine wpFrom_loud _ rfl (wantedS_sound av (by kernel_rfl)) fun K hK => ?_
      refine wc [] av l (law_wakes_ok n l.has  ex41) fun c6 ck dd a9 cn a3 => ?_
      obtain rfl := a9
      refine ⟨.one (.c (.bool x41)), rfl, fun cc (bl : Kn 43 [(d, 0)] [(tB 41 x41), (tB 40 true)] cc) => hK _ _ ?_⟩
      refine Rk 10 2 [(tB 2 x41)] bl a3 fun cr bm => ?_
      refine wf (wp_ret ?_)
      obtain rfl := Option.some.inj H
      exact rt (.one (.c (.bool x41))) bm a3 rfl
     ·
      rw [q, cond_false] at H
      have bn : Kn 43 [(d, 0)] [(tB 40 false)] a7 := (au.setB 40 false (by rfl) q).kp
      refine Rk 9 3 [(tB 2 false)] bn l fun cs bo => ?_
      refine wf (wp_ret ?_)
      obtain rfl := Option.some.inj H
      exact rt (.one (.c (.bool false))) bo l rfl
    ·
     rw [p, cond_false] at H
     have bp : Kn 43 [(d, 0)] [(tB 35 false), (tI 6 k.1), (tI 3 x21.1)] a6 := (ar.setB 35 false (by rfl) p).kp
     refine Rk 4 8 [(tB 2 false)] bp l fun ct br => ?_
     refine wf (wp_ret ?_)
     obtain rfl := Option.some.inj H
     exact rt (.one (.c (.bool false))) br l rfl
end Go.Proofs.Ytkbphdjemgibnaa
