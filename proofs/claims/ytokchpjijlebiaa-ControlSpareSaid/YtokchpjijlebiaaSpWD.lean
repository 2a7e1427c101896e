/- Each call computes its plain function. -/
import Derived.Test.YtokchpjijlebiaaProg
import Derived.Test.YtokchpjijlebiaaSpP0
import Derived.Test.YtokchpjijlebiaaSpWA
import Derived.Test.YtokchpjijlebiaaSpWB
set_option linter.all false
namespace Go.Proofs.Ytokchpjijlebiaa
open Go Go.RowKit
open Rep (rep)
open KRep (kv)
open VRep (rv)
abbrev K34c1 (k : Option Addr) (a : Acts) (o : Nat) (l : Option Addr) (p : Nat) (m : Option Addr) (q : Nat) : List SC := [.slice k a.holds.length o, .slice l a.turns.length p, .slice m a.spares.length q]
abbrev K34c2 (s : Option Addr) (t_ : Truth) (x : Nat) (u : Option Addr) (y : Nat) (g : Option Addr) (i : Nat) : List SC := [.slice s t_.tm.length x, .slice u t_.turns.length y, .slice g t_.legs.length i]
abbrev K34m3 : TM := [(tP 3 1 0), (tP 2 0 0)]
set_option maxRecDepth 100000 in
set_option maxHeartbeats 4000000 in
theorem law_short_ok (n : Nat) {h : Heap} {w : World} (hh : Has h w) (a : Acts) {cs_a : List Value} (hx_a : rep h a cs_a) (t_ : Truth) {cs_t_ : List Value} (hx_t_ : rep h t_ cs_t_) {r : Bool} (H : law_short n a t_ = some r) :
  Calls Try.prog 34 #[.agg cs_a.toArray, .agg cs_t_.toArray] w (Ret (fun h v => v = .bool r) h w) := by
 obtain ⟨_, _, rfl, ⟨k, o, rfl, bc⟩, ⟨_, _, rfl, ⟨l, p, rfl, bd⟩, ⟨m, q, rfl, be⟩⟩⟩ := hx_a
 obtain ⟨_, _, rfl, ⟨s, x, rfl, ba⟩, ⟨_, _, rfl, ⟨u, y, rfl, bb⟩, ⟨g, i, rfl, ai⟩⟩⟩ := hx_t_
 refine enter 58 [.agg (K34c1 k a o l p m q), .agg (K34c2 s t_ x u y g i)] Try.func34 rfl rfl rfl rfl fun t hk => ?_
 have hm := Mem.begin h w hh
 unfold law_short at H
 refine wp_seq (wp_region_from (wl fun K hK => ?_))
 refine wb (.agg (K34c1 k a o l p m q)) hk hm fun b ct cw (b7 : Kn 58 [(b, 0)] [(tP 2 0 0), (tA 0 (K34c1 k a o l p m q)), (tA 1 (K34c2 s t_ x u y g i))] ct) (cm : Mem ⟨w, h, noX⟩ h [(b, 0)] [⟨(K34c1 k a o l p m q), some 50⟩] [] cw) => hK _ _ ?_
 refine wl fun K hK => ?_
 refine wb (.agg (K34c2 s t_ x u y g i)) b7 cm fun d cu cx (b8 : Kn 58 [(b, 0), (d, 0)] [(tP 3 1 0), (tP 2 0 0), (tA 0 (K34c1 k a o l p m q)), (tA 1 (K34c2 s t_ x u y g i))] cu) (au : Mem ⟨w, h, noX⟩ h [(b, 0), (d, 0)] [⟨(K34c1 k a o l p m q), some 50⟩, ⟨(K34c2 s t_ x u y g i), some 75⟩] [] cx) => hK _ _ ?_
 refine Rk 2 1 K34m3 b8 au fun c8 b9 => ?_
 refine wf (wp_seq (wp_seq (wp_region_from (Rk 0 1 ((tI 5 0) :: K34m3) b9 au fun c9 ca => ?_))))
 refine wf ?_
 obtain ⟨bf, a3, H⟩ := bnd H
 refine wp_mid' (fun a' w' => ∃ (bi : Unit) (ax : Array Value) (am : Heap), a' = ⟨ax, []⟩ ∧ Kn 58 [(b, 0), (d, 0)] K34m3 ax ∧ Mem ⟨w, h, noX⟩ am [(b, 0), (d, 0)] [⟨(K34c1 k a o l p m q), some 50⟩, ⟨(K34c2 s t_ x u y g i), some 75⟩] [] w' ∧ Heap.le h am ∧ bf = .go bi) ?_ ?_
 ·
  refine wp_block ?_
  refine wp_loop_n (fun cr a' w' => ∃ (x_v10 : Int) (ay : Array Value) (ak : Heap), a' = ⟨ay, []⟩ ∧ Kn 58 [(b, 0), (d, 0)] ((tI 5 x_v10) :: K34m3) ay ∧ Mem ⟨w, h, noX⟩ ak [(b, 0), (d, 0)] [⟨(K34c1 k a o l p m q), some 50⟩, ⟨(K34c2 s t_ x u y g i), some 75⟩] [] w' ∧ Heap.le h ak ∧ law_short_l1 cr t_ x_v10 = some bf) n ?_ ?_
  ·
   exact Exists.intro 0 ⟨_, _, rfl, ca.kp, au, (Heap.le_refl _), a3⟩
  ·
   rintro aw _ dg ⟨x_v10, ay, ak, rfl, cb, ag, z, f⟩
   clear a3
   obtain _ | aw := aw
   ·
    rw [law_short_l1] at f; cases f
   rw [law_short_l1] at f
   replace bc := bc.mono z
   replace bd := bd.mono z
   replace be := be.mono z
   replace ba := ba.mono z
   replace bb := bb.mono z
   replace ai := ai.mono z
   refine wp_seq (wp_seq ?_)
   obtain ⟨bg, aj, f⟩ := bnd f
   refine wp_mid' (fun a' w' => ∃ (az : Array Value) (al : Heap), a' = ⟨az, []⟩ ∧ Kn 58 [(b, 0), (d, 0)] [(tI 5 x_v10), (tP 3 1 0), (tP 2 0 0), (tB 14 bg)] az ∧ Mem ⟨w, h, noX⟩ al [(b, 0), (d, 0)] [⟨(K34c1 k a o l p m q), some 50⟩, ⟨(K34c2 s t_ x u y g i), some 75⟩] [] w' ∧ Heap.le ak al) ?_ ?_
   ·
    refine wp_region_from (Rk 0 6 ((tB 11 (decide (x_v10 < ((t_.legs.length : Nat) : Int)))) :: (tI 5 x_v10) :: K34m3) cb ag fun bm a7 => ?_)
    rcases Bool.eq_false_or_eq_true (decide (x_v10 < ((t_.legs.length : Nat) : Int))) with ad | ad
    ·
     rw [ad, cond_true] at aj
     have cc : Kn 58 [(b, 0), (d, 0)] ((tB 11 true) :: (tI 5 x_v10) :: K34m3) bm := (a7.setB 11 true (by rfl) ad).kp
     refine Rk 6 3 ((tB 14 (decide (x_v10 < 9))) :: (tI 5 x_v10) :: K34m3) cc ag fun da cd => ?_
     refine wf ?_
     obtain rfl := Option.some.inj aj
     exact Exists.intro _ ⟨_, rfl, cd.kp, ag, (Heap.le_refl _)⟩
    ·
     rw [ad, cond_false] at aj
     have ce : Kn 58 [(b, 0), (d, 0)] ((tB 11 false) :: (tI 5 x_v10) :: K34m3) bm := (a7.setB 11 false (by rfl) ad).kp
     refine Rk 6 3 ((tB 14 false) :: (tI 5 x_v10) :: K34m3) ce ag fun db cf => ?_
     refine wf ?_
     obtain rfl := Option.some.inj aj
     exact Exists.intro _ ⟨_, rfl, cf.kp, ag, (Heap.le_refl _)⟩
   ·
    rintro _ cy ⟨az, al, rfl, ap, av, ar⟩
    replace ai := ai.mono ar
    refine wC (bg) ap (fun an => ?_) (fun an => ?_)
    ·
     rw [an, cond_true] at f
     refine wp_skip (wp_seq (wp_block (wp_seq (wp_region_from (Rk 0 3 ((tI 19 x_v10) :: (tS 18 g t_.legs.length i) :: (tI 5 x_v10) :: K34m3) ap av fun dc cg => ?_)))))
     obtain ⟨x20, ex20, f⟩ := bnd f
     obtain ⟨cn, co, cq⟩ := idx_some ex20
     obtain ⟨a1, bh, cz, bp, cp, bq⟩ := ai.get (by decide) cq
     obtain ⟨a0, a2, rfl, c1⟩ := cp
     have ah : Mem ⟨w, h, noX⟩ al [(b, 0), (d, 0), (a1, bh + (x_v10 : Int).toNat * 1)] [⟨(K34c1 k a o l p m q), some 50⟩, ⟨(K34c2 s t_ x u y g i), some 75⟩, ⟨[.slice a0 x20.length a2], none⟩] [] cy := av.addPlc (cs := [.slice a0 x20.length a2]) (fun j c hj => bq j _ (map_get hj)) rfl (by kernel_rfl) (by kernel_rfl)
     refine R_index 3 (x_v10) rfl rfl (rfl) rfl (by decide) cg (by rfl) (by rfl) (by rfl) bp (by rfl) cn co (by kernel_rfl) fun cv (ch : Kn 58 [(b, 0), (d, 0), (a1, bh + (x_v10 : Int).toNat * 1)] ((tP 20 2 0) :: (tI 19 x_v10) :: (tS 18 g t_.legs.length i) :: (tI 5 x_v10) :: K34m3) cv) => ?_
     refine Rk 4 3 ((tB 23 (decide (((x20.length : Nat) : Int) > 10))) :: (tI 5 x_v10) :: K34m3) ch ah fun dd aq => ?_
     refine wf (wC (decide (((x20.length : Nat) : Int) > 10)) aq (fun ao => ?_) (fun ao => ?_))
     ·
      rw [ao, cond_true] at f
      refine wp_seq (wp_region_from (Rk 0 1 [(tB 4 false)] aq ah fun de ci => ?_))
      refine wf (wp_ret ?_)
      obtain rfl := Option.some.inj f
      obtain rfl := Option.some.inj H
      exact rt (.one (.c (.bool false))) ci ah rfl
     ·
      rw [ao, cond_false] at f
      refine wp_skip (wp_region_from (Rk 0 3 ((tI 5 (IntKind.i64.wrap (x_v10 + 1))) :: K34m3) aq ah fun df cj => ?_))
      refine wf ?_
      exact Exists.intro aw ⟨Nat.lt_succ_self _, Exists.intro (IntKind.i64.wrap (x_v10 + 1)) ⟨_, _, rfl, ((cj.keep [5, 3, 2] (by rfl)).cut 2 (by kernel_rfl)), (ah.cutPl 2 (by kernel_rfl)), (Heap.le_trans z ar), f⟩⟩
    ·
     rw [an, cond_false] at f
     refine wp_exit ?_
     obtain rfl := Option.some.inj f
     exact Exists.intro () ⟨_, _, rfl, ap.kp, av, (Heap.le_trans z ar), rfl⟩
 ·
  rintro _ dh ⟨bi, ax, am, rfl, ck, e, c0, rfl⟩
  rw [Ex.bind_go] at H
  refine wp_seq (wp_region_from (Rk 0 5 ((tB 28 (decide (((a.holds.length : Nat) : Int) ≤ 8))) :: K34m3) ck e fun bn a8 => ?_))
  rcases Bool.eq_false_or_eq_true (decide (((a.holds.length : Nat) : Int) ≤ 8)) with ae | ae
  ·
   rw [ae, cond_true] at H
   have cl : Kn 58 [(b, 0), (d, 0)] ((tB 28 true) :: K34m3) bn := (a8.setB 28 true (by rfl) ae).kp
   refine Rk 5 6 ((tB 34 (decide (((a.turns.length : Nat) : Int) ≤ 8))) :: K34m3) cl e fun bo a9 => ?_
   rcases Bool.eq_false_or_eq_true (decide (((a.turns.length : Nat) : Int) ≤ 8)) with af | af
   ·
    rw [af, cond_true] at H
    have br : Kn 58 [(b, 0), (d, 0)] ((tB 34 true) :: K34m3) bo := (a9.setB 34 true (by rfl) af).kp
    refine Rk 11 6 [(tB 40 (decide (((a.spares.length : Nat) : Int) ≤ 8))), (tP 3 1 0)] br e fun bj a4 => ?_
    rcases Bool.eq_false_or_eq_true (decide (((a.spares.length : Nat) : Int) ≤ 8)) with aa | aa
    ·
     rw [aa, cond_true] at H
     have bs : Kn 58 [(b, 0), (d, 0)] [(tB 40 true), (tP 3 1 0)] bj := (a4.setB 40 true (by rfl) aa).kp
     refine Rk 17 6 [(tB 46 (decide (((t_.tm.length : Nat) : Int) ≤ 8))), (tP 3 1 0)] bs e fun bk a5 => ?_
     rcases Bool.eq_false_or_eq_true (decide (((t_.tm.length : Nat) : Int) ≤ 8)) with ab | ab
     ·
      rw [ab, cond_true] at H
      have bt : Kn 58 [(b, 0), (d, 0)] [(tB 46 true), (tP 3 1 0)] bk := (a5.setB 46 true (by rfl) ab).kp
      refine Rk 23 6 [(tB 52 (decide (((t_.turns.length : Nat) : Int) ≤ 8))), (tP 3 1 0)] bt e fun bl a6 => ?_
      rcases Bool.eq_false_or_eq_true (decide (((t_.turns.length : Nat) : Int) ≤ 8)) with ac | ac
      ·
       rw [ac, cond_true] at H
       have bu : Kn 58 [(b, 0), (d, 0)] [(tB 52 true), (tP 3 1 0)] bl := (a6.setB 52 true (by rfl) ac).kp
       refine Rk 29 6 [(tB 4 (decide (((t_.legs.length : Nat) : Int) ≤ 8)))] bu e fun c2 bv => ?_
       refine wf (wp_ret ?_)
       obtain rfl := Option.some.inj H
       exact rt (.one (.c (.bool (decide (((t_.legs.length : Nat) : Int) ≤ 8))))) bv e rfl
      ·
       rw [ac, cond_false] at H
       have bw : Kn 58 [(b, 0), (d, 0)] [(tB 52 false), (tP 3 1 0)] bl := (a6.setB 52 false (by rfl) ac).kp
       refine Rk 29 6 [(tB 4 false)] bw e fun c3 bx => ?_
       refine wf (wp_ret ?_)
       obtain rfl := Option.some.inj H
       exact rt (.one (.c (.bool false))) bx e rfl
     ·
      rw [ab, cond_false] at H
      have bz : Kn 58 [(b, 0), (d, 0)] [(tB 46 false), (tP 3 1 0)] bk := (a5.setB 46 false (by rfl) ab).kp
      refine Rk 23 12 [(tB 4 false)] bz e fun c4 b0 => ?_
      refine wf (wp_ret ?_)
      obtain rfl := Option.some.inj H
      exact rt (.one (.c (.bool false))) b0 e rfl
    ·
     rw [aa, cond_false] at H
     have b1 : Kn 58 [(b, 0), (d, 0)] [(tB 40 false), (tP 3 1 0)] bj := (a4.setB 40 false (by rfl) aa).kp
     refine Rk 17 18 [(tB 4 false)] b1 e fun c5 b2 => ?_
     refine wf (wp_ret ?_)
     obtain rfl := Option.some.inj H
     exact rt (.one (.c (.bool false))) b2 e rfl
   ·
    rw [af, cond_false] at H
    have b3 : Kn 58 [(b, 0), (d, 0)] ((tB 34 false) :: K34m3) bo := (a9.setB 34 false (by rfl) af).kp
    refine Rk 11 24 [(tB 4 false)] b3 e fun c6 b4 => ?_
    refine wf (wp_ret ?_)
    obtain rfl := Option.some.inj H
    exact rt (.one (.c (.bool false))) b4 e rfl
  ·
   rw [ae, cond_false] at H
   have b5 : Kn 58 [(b, 0), (d, 0)] ((tB 28 false) :: K34m3) bn := (a8.setB 28 false (by rfl) ae).kp
   refine Rk 5 30 [(tB 4 false)] b5 e fun c7 b6 => ?_
   refine wf (wp_ret ?_)
   obtain rfl := Option.some.inj H
   exact rt (.one (.c (.bool false))) b6 e rfl
abbrev K36c1 (j : Option Addr) (a : Acts) (m : Nat) (k : Option Addr) (o : Nat) (l : Option Addr) (p : Nat) : List SC := [.slice j a.holds.length m, .slice k a.turns.length o, .slice l a.spares.length p]
abbrev K36c2 (b : Option Addr) (r_ : Route) (f : Nat) (d : Option Addr) (g : Nat) (e : Option Addr) (i : Nat) : List SC := [.slice b r_.legs.length f, .int .i64 r_.turn.lo, .int .i64 r_.turn.hi, .slice d r_.buses.length g, .slice e r_.spares.length i, .int .i64 r_.unit, .int .i64 r_.gap, .int .i64 r_.fr, .int .i64 r_.to_]
set_option maxRecDepth 100000 in
set_option maxHeartbeats 4000000 in
theorem law_fault_ok (n : Nat) {h : Heap} {w : World} (hh : Has h w) (r_ : Route) {cs_r_ : List Value} (hx_r_ : rep h r_ cs_r_) (a : Acts) {cs_a : List Value} (hx_a : rep h a cs_a) {r : Int} (H : law_fault n r_ a = some r) :
  Calls Try.prog 36 #[.agg cs_r_.toArray, .agg cs_a.toArray] w (Ret (fun h v => v = .int .i64 r) h w) := by
 obtain ⟨_, _, rfl, ⟨b, f, rfl, aa⟩, ⟨_, _, rfl, ⟨_, _, rfl, rfl, rfl⟩, ⟨_, _, rfl, ⟨d, g, rfl, ab⟩, ⟨_, _, rfl, ⟨e, i, rfl, ac⟩, ⟨_, _, rfl, rfl, ⟨_, _, rfl, rfl, ⟨_, _, rfl, rfl, rfl⟩⟩⟩⟩⟩⟩⟩ := hx_r_
 obtain ⟨_, _, rfl, ⟨j, m, rfl, ah⟩, ⟨_, _, rfl, ⟨k, o, rfl, ai⟩, ⟨l, p, rfl, aj⟩⟩⟩ := hx_a
 refine enter 15 [.agg (K36c2 b r_ f d g e i), .agg (K36c1 j a m k o l p)] Try.func36 rfl rfl rfl rfl fun t hk => ?_
 have hm := Mem.begin h w hh
 unfold law_fault at H
 refine wp_seq (wp_region_from (wl fun K hK => ?_))
 refine wb (.agg (K36c2 b r_ f d g e i)) hk hm fun s a1 a5 (an : Kn 15 [(s, 0)] [(tP 2 0 0), (tA 0 (K36c2 b r_ f d g e i)), (tA 1 (K36c1 j a m k o l p))] a1) (a0 : Mem ⟨w, h, noX⟩ h [(s, 0)] [⟨(K36c2 b r_ f d g e i), some 28⟩] [] a5) => hK _ _ ?_
 refine wl fun K hK => ?_
 refine wb (.agg (K36c1 j a m k o l p)) an a0 fun y a2 a6 (ao : Kn 15 [(s, 0), (y, 0)] [(tP 3 1 0), (tP 2 0 0), (tA 0 (K36c2 b r_ f d g e i)), (tA 1 (K36c1 j a m k o l p))] a2) (z : Mem ⟨w, h, noX⟩ h [(s, 0), (y, 0)] [⟨(K36c2 b r_ f d g e i), some 28⟩, ⟨(K36c1 j a m k o l p), some 50⟩] [] a6) => hK _ _ ?_
 refine Rk 2 1 [(tP 3 1 0), (tP 2 0 0)] ao z fun a9 ap => ?_
 refine wf (wp_seq (wp_seq (wp_region_from (Rk 0 1 [(tA 6 (K36c2 b r_ f d g e i)), (tP 3 1 0), (tP 2 0 0)] ap z fun ba aq => ?_))))
 obtain ⟨x7, ex7, H⟩ := bnd H
 refine wl fun K hK => ?_
 refine wc [.agg (K36c2 b r_ f d g e i)] aq z (ref_Fault_ok n z.has r_ ((rep_pair (rep_slice aa) (rep_pair (rep_pair rep_int rep_int) (rep_pair (rep_slice ab) (rep_pair (rep_slice ac) (rep_pair rep_int (rep_pair rep_int (rep_pair rep_int rep_int))))))) : rep h r_ _) ex7) fun bi ak bk al u q => ?_
 replace aa := aa.mono u
 replace ab := ab.mono u
 replace ac := ac.mono u
 replace ah := ah.mono u
 replace ai := ai.mono u
 replace aj := aj.mono u
 obtain rfl := al
 refine ⟨.one (.c (.int .i64 x7)), rfl, fun a3 (ar : Kn 15 [(s, 0), (y, 0)] [(tI 7 x7), (tA 6 (K36c2 b r_ f d g e i)), (tP 3 1 0), (tP 2 0 0)] a3) => hK _ _ ?_⟩
 refine Rk 2 1 [(tI 5 x7), (tP 3 1 0), (tP 2 0 0)] ar q fun bb au => ?_
 refine wf (wp_seq (wp_region_from (Rk 0 2 [(tB 9 (x7 != 0)), (tI 5 x7), (tP 3 1 0), (tP 2 0 0)] au q fun bc af => ?_)))
 refine wf (wC ((x7 != 0)) af (fun ad => ?_) (fun ad => ?_))
 ·
  rw [ad, cond_true] at H
  refine wp_seq (wp_region_from (Rk 0 2 [(tI 4 x7)] af q fun bd av => ?_))
  refine wf (wp_ret ?_)
  obtain rfl := Option.some.inj H
  exact rt (.one (.c (.int .i64 x7))) av q rfl
 ·
  rw [ad, cond_false] at H
  refine wp_skip (wp_seq (wp_seq (wp_region_from (Rk 0 2 [(tA 12 (K36c1 j a m k o l p)), (tA 11 (K36c2 b r_ f d g e i))] af q fun be aw => ?_))))
  obtain ⟨x13, ex13, H⟩ := bnd H
  refine wl fun K hK => ?_
  refine wc [.agg (K36c2 b r_ f d g e i), .agg (K36c1 j a m k o l p)] aw q (ref_AreActs_ok n q.has r_ ((rep_pair (rep_slice aa) (rep_pair (rep_pair rep_int rep_int) (rep_pair (rep_slice ab) (rep_pair (rep_slice ac) (rep_pair rep_int (rep_pair rep_int (rep_pair rep_int rep_int))))))) : rep ak r_ _) a ((rep_pair (rep_slice ah) (rep_pair (rep_slice ai) (rep_slice aj))) : rep ak a _) ex13) fun bj a7 bl am a8 x => ?_
  obtain rfl := am
  refine ⟨.one (.c (.bool x13)), rfl, fun a4 (ax : Kn 15 [(s, 0), (y, 0)] [(tB 13 x13), (tA 12 (K36c1 j a m k o l p)), (tA 11 (K36c2 b r_ f d g e i))] a4) => hK _ _ ?_⟩
  refine Rk 3 1 [(tB 14 (!x13))] ax x fun bf ag => ?_
  refine wf (wC ((!x13)) ag (fun ae => ?_) (fun ae => ?_))
  ·
   rw [ae, cond_true] at H
   refine wp_seq (wp_region_from (Rk 0 1 [(tI 4 2)] ag x fun bg ay => ?_))
   refine wf (wp_ret ?_)
   obtain rfl := Option.some.inj H
   exact rt (.one (.c (.int .i64 2))) ay x rfl
  ·
   rw [ae, cond_false] at H
   refine wp_skip (wp_seq (wp_region_from (Rk 0 1 [(tI 4 0)] ag x fun bh az => ?_)))
   refine wf (wp_ret ?_)
   obtain rfl := Option.some.inj H
   exact rt (.one (.c (.int .i64 0))) az x rfl
abbrev K24c1 : List SC := [.slice none 0 0, .slice none 0 0, .slice none 0 0]
abbrev K24c2 (j : Option Addr) (a : Acts) (m : Nat) (k : Option Addr) (o : Nat) (l : Option Addr) (p : Nat) : List SC := [.slice j a.holds.length m, .slice k a.turns.length o, .slice l a.spares.length p]
abbrev K24c3 (b : Option Addr) (r_ : Route) (f : Nat) (d : Option Addr) (g : Nat) (e : Option Addr) (i : Nat) : List SC := [.slice b r_.legs.length f, .int .i64 r_.turn.lo, .int .i64 r_.turn.hi, .slice d r_.buses.length g, .slice e r_.spares.length i, .int .i64 r_.unit, .int .i64 r_.gap, .int .i64 r_.fr, .int .i64 r_.to_]
abbrev K24m4 : TM := [(tP 3 1 0), (tP 2 0 0)]
set_option maxRecDepth 100000 in
set_option maxHeartbeats 4000000 in
theorem law_ready_ok (n : Nat) {h : Heap} {w : World} (hh : Has h w) (r_ : Route) {cs_r_ : List Value} (hx_r_ : rep h r_ cs_r_) (a : Acts) {cs_a : List Value} (hx_a : rep h a cs_a) {r : Bool} (H : law_ready n r_ a = some r) :
  Calls Try.prog 24 #[.agg cs_r_.toArray, .agg cs_a.toArray] w (Ret (fun h v => v = .bool r) h w) := by
 obtain ⟨_, _, rfl, ⟨b, f, rfl, ad⟩, ⟨_, _, rfl, ⟨_, _, rfl, rfl, rfl⟩, ⟨_, _, rfl, ⟨d, g, rfl, ae⟩, ⟨_, _, rfl, ⟨e, i, rfl, af⟩, ⟨_, _, rfl, rfl, ⟨_, _, rfl, rfl, ⟨_, _, rfl, rfl, rfl⟩⟩⟩⟩⟩⟩⟩ := hx_r_
 obtain ⟨_, _, rfl, ⟨j, m, rfl, aa⟩, ⟨_, _, rfl, ⟨k, o, rfl, ab⟩, ⟨l, p, rfl, ac⟩⟩⟩ := hx_a
 refine enter 18 [.agg (K24c3 b r_ f d g e i), .agg (K24c2 j a m k o l p)] Try.func24 rfl rfl rfl rfl fun t hk => ?_
 have hm := Mem.begin h w hh
 unfold law_ready at H
 refine wp_seq (wp_region_from (wl fun K hK => ?_))
 refine wb (.agg (K24c3 b r_ f d g e i)) hk hm fun q bc bh (ax : Kn 18 [(q, 0)] [(tP 2 0 0), (tA 0 (K24c3 b r_ f d g e i)), (tA 1 (K24c2 j a m k o l p))] bc) (bb : Mem ⟨w, h, noX⟩ h [(q, 0)] [⟨(K24c3 b r_ f d g e i), some 28⟩] [] bh) => hK _ _ ?_
 refine wl fun K hK => ?_
 refine wb (.agg (K24c2 j a m k o l p)) ax bb fun s bd bi (ay : Kn 18 [(q, 0), (s, 0)] [(tP 3 1 0), (tP 2 0 0), (tA 0 (K24c3 b r_ f d g e i)), (tA 1 (K24c2 j a m k o l p))] bd) (ai : Mem ⟨w, h, noX⟩ h [(q, 0), (s, 0)] [⟨(K24c3 b r_ f d g e i), some 28⟩, ⟨(K24c2 j a m k o l p), some 50⟩] [] bi) => hK _ _ ?_
 refine Rk 2 1 K24m4 ay ai fun bl az => ?_
 refine wf (wp_seq (wp_region_from (Rk 0 1 ((tA 5 (K24c3 b r_ f d g e i)) :: K24m4) az ai fun bm a0 => ?_)))
 obtain ⟨x6, ex6, H⟩ := bnd H
 refine wl fun K hK => ?_
 refine wc [.agg (K24c3 b r_ f d g e i)] a0 ai (law_Thin_ok n ai.has r_ ((rep_pair (rep_slice ad) (rep_pair (rep_pair rep_int rep_int) (rep_pair (rep_slice ae) (rep_pair (rep_slice af) (rep_pair rep_int (rep_pair rep_int (rep_pair rep_int rep_int))))))) : rep h r_ _) ex6) fun bs aj bv au u y => ?_
 replace ad := ad.mono u
 replace ae := ae.mono u
 replace af := af.mono u
 replace aa := aa.mono u
 replace ab := ab.mono u
 replace ac := ac.mono u
 obtain rfl := au
 refine ⟨.one (.c (.bool x6)), rfl, fun be (a1 : Kn 18 [(q, 0), (s, 0)] ((tB 6 x6) :: (tA 5 (K24c3 b r_ f d g e i)) :: K24m4) be) => hK _ _ ?_⟩
 refine Rk 2 1 ((tB 7 x6) :: K24m4) a1 y fun aq al => ?_
 rcases Bool.eq_false_or_eq_true (x6) with ag | ag
 ·
  rw [ag, cond_true] at H
  have a2 : Kn 18 [(q, 0), (s, 0)] ((tB 7 true) :: K24m4) aq := (al.setB 7 true (by rfl) ag).kp
  refine Rk 3 2 ((tA 9 K24c1) :: (tA 8 (K24c2 j a m k o l p)) :: (tB 7 true) :: K24m4) a2 y fun bn am => ?_
  obtain ⟨x10, ex10, H⟩ := bnd H
  refine wpFrom_loud _ rfl (wantedS_sound am (by kernel_rfl)) fun K hK => ?_
  refine wc [.agg (K24c2 j a m k o l p), .agg K24c1] am y (law_short_ok n y.has a ((rep_pair (rep_slice aa) (rep_pair (rep_slice ab) (rep_slice ac))) : rep aj a _) (Truth.mk ([] : List Int) ([] : List Int) ([] : List (List Int))) ((rep_pair (rep_slice RepS.nil) (rep_pair (rep_slice RepS.nil) (rep_slice RepS.nil))) : rep aj (Truth.mk ([] : List Int) ([] : List Int) ([] : List (List Int))) _) ex10) fun bt ak bw av x z => ?_
  replace ad := ad.mono x
  replace ae := ae.mono x
  replace af := af.mono x
  replace aa := aa.mono x
  replace ab := ab.mono x
  replace ac := ac.mono x
  obtain rfl := av
  refine ⟨.one (.c (.bool x10)), rfl, fun bf (a3 : Kn 18 [(q, 0), (s, 0)] ((tB 10 x10) :: (tA 9 K24c1) :: (tA 8 (K24c2 j a m k o l p)) :: (tB 7 true) :: K24m4) bf) => hK _ _ ?_⟩
  refine Rk 6 2 ((tB 12 x10) :: K24m4) a3 z fun ar an => ?_
  rcases Bool.eq_false_or_eq_true (x10) with ah | ah
  ·
   rw [ah, cond_true] at H
   have a4 : Kn 18 [(q, 0), (s, 0)] ((tB 12 true) :: K24m4) ar := (an.setB 12 true (by rfl) ah).kp
   refine Rk 8 2 [(tA 14 (K24c2 j a m k o l p)), (tA 13 (K24c3 b r_ f d g e i)), (tB 12 true)] a4 z fun bo ao => ?_
   obtain ⟨x15, ex15, H⟩ := bnd H
   refine wpFrom_loud _ rfl (wantedS_sound ao (by kernel_rfl)) fun K hK => ?_
   refine wc [.agg (K24c3 b r_ f d g e i), .agg (K24c2 j a m k o l p)] ao z (law_fault_ok n z.has r_ ((rep_pair (rep_slice ad) (rep_pair (rep_pair rep_int rep_int) (rep_pair (rep_slice ae) (rep_pair (rep_slice af) (rep_pair rep_int (rep_pair rep_int (rep_pair rep_int rep_int))))))) : rep ak r_ _) a ((rep_pair (rep_slice aa) (rep_pair (rep_slice ab) (rep_slice ac))) : rep ak a _) ex15) fun bu bj bx aw bk ap => ?_
   obtain rfl := aw
   refine ⟨.one (.c (.int .i64 x15)), rfl, fun bg (a5 : Kn 18 [(q, 0), (s, 0)] [(tI 15 x15), (tA 14 (K24c2 j a m k o l p)), (tA 13 (K24c3 b r_ f d g e i)), (tB 12 true)] bg) => hK _ _ ?_⟩
   refine Rk 11 3 [(tB 4 (x15 == 0))] a5 ap fun bp a6 => ?_
   refine wf (wp_ret ?_)
   obtain rfl := Option.some.inj H
   exact rt (.one (.c (.bool (x15 == 0)))) a6 ap rfl
  ·
   rw [ah, cond_false] at H
   have a7 : Kn 18 [(q, 0), (s, 0)] ((tB 12 false) :: K24m4) ar := (an.setB 12 false (by rfl) ah).kp
   refine Rk 8 6 [(tB 4 false)] a7 z fun bq a8 => ?_
   refine wf (wp_ret ?_)
   obtain rfl := Option.some.inj H
   exact rt (.one (.c (.bool false))) a8 z rfl
 ·
  rw [ag, cond_false] at H
  have a9 : Kn 18 [(q, 0), (s, 0)] ((tB 7 false) :: K24m4) aq := (al.setB 7 false (by rfl) ag).kp
  refine Rk 3 11 [(tB 4 false)] a9 y fun br ba => ?_
  refine wf (wp_ret ?_)
  obtain rfl := Option.some.inj H
  exact rt (.one (.c (.bool false))) ba y rfl
end Go.Proofs.Ytokchpjijlebiaa
