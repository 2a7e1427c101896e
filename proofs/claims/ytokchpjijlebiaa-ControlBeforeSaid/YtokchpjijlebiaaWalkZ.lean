/- Each call computes its plain function: printed by dec.py. -/
import Derived.Test.YtokchpjijlebiaaProg
import Derived.Test.YtokchpjijlebiaaPure
import Derived.Test.YtokchpjijlebiaaWalkQ
import Derived.Test.YtokchpjijlebiaaWalkT
import Derived.Test.YtokchpjijlebiaaWalkX
import Derived.Test.YtokchpjijlebiaaWalkY
set_option linter.all false
namespace Go.Proofs.Ytokchpjijlebiaa
open Go Go.RowKit
open Rep (rep)
open KRep (kv)
open VRep (rv)
abbrev K52c1 (c : Cost) : List SC := [.int .i64 c.number, .int .i64 c.sum]
abbrev K52c2 (least : Cost) : List SC := [.int .i64 least.number, .int .i64 least.sum]
abbrev K52e3 (b_found b_least b_best b_r_ a f : Nat) : Env := [(b_found, 0), (b_least, 0), (b_best, 0), (b_r_, 0), (a, 0), (f, 0)]
abbrev K52c4 (g : Option Addr) (r_ : Route) (m : Nat) (k : Option Addr) (p : Nat) (l : Option Addr) (q : Nat) : List SC := [.slice g r_.legs.length m, .int .i64 r_.turn.lo, .int .i64 r_.turn.hi, .slice k r_.buses.length p, .slice l r_.spares.length q, .int .i64 r_.unit, .int .i64 r_.gap, .int .i64 r_.fr, .int .i64 r_.to_]
abbrev K52c5 (d : Deeds) : List SC := [.int .i64 d.holds.a0, .int .i64 d.holds.a1, .int .i64 d.holds.a2, .int .i64 d.holds.a3, .int .i64 d.turns.a0, .int .i64 d.turns.a1, .int .i64 d.turns.a2, .int .i64 d.turns.a3, .bool d.spares.a0, .bool d.spares.a1]
abbrev K52c6 (best : Deeds) : List SC := [.int .i64 best.holds.a0, .int .i64 best.holds.a1, .int .i64 best.holds.a2, .int .i64 best.holds.a3, .int .i64 best.turns.a0, .int .i64 best.turns.a1, .int .i64 best.turns.a2, .int .i64 best.turns.a3, .bool best.spares.a0, .bool best.spares.a1]
abbrev K52m7 : TM := [(tP 7 5 0), (tP 6 4 0), (tP 2 0 0), (tP 3 1 0), (tP 4 3 0), (tP 5 2 0)]
abbrev K52m8 : TM := [(tP 2 0 0), (tP 3 1 0), (tP 5 2 0)]
abbrev K52m9 : TM := (tB 9 true) :: K52m7
set_option maxRecDepth 100000 in
set_option maxHeartbeats 4000000 in
theorem control_Best_1_ok (n : Nat) {F : Fr} {h : Heap} {w : World} {b_found b_least b_r_ b_best : Nat} (d : Deeds) {cs_d : List Value} (hx_d : rep h d cs_d) (c : Cost) {cs_c : List Value} (hx_c : rep h c cs_c) (found : Bool) (least : Cost) (best : Deeds) (r_ : Route) (hb_r_ : BoxS h b_r_ r_) (hm : Mem F h [(b_found, 0), (b_least, 0), (b_best, 0)] [⟨[.bool found], some 4⟩, ⟨[.int .i64 least.number, .int .i64 least.sum], some 104⟩, ⟨[.int .i64 best.holds.a0, .int .i64 best.holds.a1, .int .i64 best.holds.a2, .int .i64 best.holds.a3, .int .i64 best.turns.a0, .int .i64 best.turns.a1, .int .i64 best.turns.a2, .int .i64 best.turns.a3, .bool best.spares.a0, .bool best.spares.a1], some 102⟩] [] w) {r : Bool × Cost × Deeds} (H : control_Best_1 n d c found least best r_ = some r) :
  Calls Try.prog 52 #[.agg cs_d.toArray, .agg cs_c.toArray, .pointer (some ⟨b_found, 0, none⟩), .pointer (some ⟨b_least, 0, none⟩), .pointer (some ⟨b_r_, 0, none⟩), .pointer (some ⟨b_best, 0, none⟩)] w (RetM fun v w' => ∃ (h' : Heap), Heap.le h h' ∧ (v = .tuple #[]) ∧ Mem F h' [(b_found, 0), (b_least, 0), (b_best, 0)] [⟨[.bool r.1], some 4⟩, ⟨[.int .i64 r.2.1.number, .int .i64 r.2.1.sum], some 104⟩, ⟨[.int .i64 r.2.2.holds.a0, .int .i64 r.2.2.holds.a1, .int .i64 r.2.2.holds.a2, .int .i64 r.2.2.holds.a3, .int .i64 r.2.2.turns.a0, .int .i64 r.2.2.turns.a1, .int .i64 r.2.2.turns.a2, .int .i64 r.2.2.turns.a3, .bool r.2.2.spares.a0, .bool r.2.2.spares.a1], some 102⟩] [] w') := by
 obtain ⟨_, _, rfl, ⟨_, _, rfl, rfl, ⟨_, _, rfl, rfl, ⟨_, _, rfl, rfl, rfl⟩⟩⟩, ⟨_, _, rfl, ⟨_, _, rfl, rfl, ⟨_, _, rfl, rfl, ⟨_, _, rfl, rfl, rfl⟩⟩⟩, ⟨_, _, rfl, rfl, rfl⟩⟩⟩ := hx_d
 obtain ⟨_, _, rfl, rfl, rfl⟩ := hx_c
 obtain ⟨_, hx_r_, hc_r_⟩ := id hb_r_
 obtain ⟨_, _, rfl, ⟨g, m, rfl, aa⟩, ⟨_, _, rfl, ⟨_, _, rfl, rfl, rfl⟩, ⟨_, _, rfl, ⟨k, p, rfl, ab⟩, ⟨_, _, rfl, ⟨l, q, rfl, ac⟩, ⟨_, _, rfl, rfl, ⟨_, _, rfl, rfl, ⟨_, _, rfl, rfl, rfl⟩⟩⟩⟩⟩⟩⟩ := hx_r_
 refine enter' (e := [(b_found, 0), (b_least, 0), (b_best, 0), (b_r_, 0)]) 42 [.agg (K52c5 d), .agg (K52c1 c), .c (.ptr 0 0), .c (.ptr 1 0), .c (.ptr 3 0), .c (.ptr 2 0)] Try.func52 rfl rfl rfl rfl fun t hk => ?_
 replace hm := hm.addPlc (o := 0) (cs := [.slice g r_.legs.length m, .int .i64 r_.turn.lo, .int .i64 r_.turn.hi, .slice k r_.buses.length p, .slice l r_.spares.length q, .int .i64 r_.unit, .int .i64 r_.gap, .int .i64 r_.fr, .int .i64 r_.to_]) (fun j c hj => by rw [Nat.zero_add]; exact hc_r_ j _ (map_get hj)) rfl (by kernel_rfl) (by kernel_rfl)
 replace hm : Mem F h [(b_found, 0), (b_least, 0), (b_best, 0), (b_r_, 0)] [⟨[.bool found], some 4⟩, ⟨(K52c2 least), some 104⟩, ⟨(K52c6 best), some 102⟩, ⟨(K52c4 g r_ m k p l q), none⟩] [] w := hm
 unfold control_Best_1 at H
 refine wp_seq (wp_region_from (wpFrom_loud _ rfl (rfl) fun K hK => ?_))
 refine wp_box (.agg (K52c5 d)) hk hm rfl rfl (by decide) (by kernel_rfl) (by kernel_rfl) (by kernel_rfl) fun a b9 cc (be : Kn 42 [(b_found, 0), (b_least, 0), (b_best, 0), (b_r_, 0), (a, 0)] [(tP 6 4 0), (tA 0 (K52c5 d)), (tA 1 (K52c1 c)), (tP 2 0 0), (tP 3 1 0), (tP 4 3 0), (tP 5 2 0)] b9) (b4 : Mem F h [(b_found, 0), (b_least, 0), (b_best, 0), (b_r_, 0), (a, 0)] [⟨[.bool found], some 4⟩, ⟨(K52c2 least), some 104⟩, ⟨(K52c6 best), some 102⟩, ⟨(K52c4 g r_ m k p l q), none⟩, ⟨(K52c5 d), some 102⟩] [] cc) => hK _ _ ?_
 refine wpFrom_loud _ rfl (rfl) fun K hK => ?_
 refine wp_box (.agg (K52c1 c)) be b4 rfl rfl (by decide) (by kernel_rfl) (by kernel_rfl) (by kernel_rfl) fun f a7 cd (bf : Kn 42 (K52e3 b_found b_least b_best b_r_ a f) [(tP 7 5 0), (tP 6 4 0), (tA 0 (K52c5 d)), (tA 1 (K52c1 c)), (tP 2 0 0), (tP 3 1 0), (tP 4 3 0), (tP 5 2 0)] a7) (u : Mem F h (K52e3 b_found b_least b_best b_r_ a f) [⟨[.bool found], some 4⟩, ⟨(K52c2 least), some 104⟩, ⟨(K52c6 best), some 102⟩, ⟨(K52c4 g r_ m k p l q), none⟩, ⟨(K52c5 d), some 102⟩, ⟨(K52c1 c), some 104⟩] [] cd) => hK _ _ ?_
 have bg : Kn 42 (K52e3 b_found b_least b_best b_r_ a f) K52m7 a7 := bf.keep [7, 6, 2, 3, 4, 5] (by rfl)
 refine wpFrom_end (by decide) (wp_seq (wp_seq ?_))
 obtain ⟨a6, x, H⟩ := bnd H
 refine wp_mid' (fun a' w' => ∃ (au : Array Value) (ad : Heap), a' = ⟨au, []⟩ ∧ Kn 42 (K52e3 b_found b_least b_best b_r_ a f) [(tP 7 5 0), (tP 6 4 0), (tP 2 0 0), (tP 3 1 0), (tP 4 3 0), (tP 5 2 0), (tB 34 a6)] au ∧ Mem F ad (K52e3 b_found b_least b_best b_r_ a f) [⟨[.bool found], some 4⟩, ⟨(K52c2 least), some 104⟩, ⟨(K52c6 best), some 102⟩, ⟨(K52c4 g r_ m k p l q), none⟩, ⟨(K52c5 d), some 102⟩, ⟨(K52c1 c), some 104⟩] [] w' ∧ Heap.le h ad) ?_ ?_
 ·
  refine wp_region_from (R_runk 0 2 [9, 7, 6, 2, 3, 4, 5] ((tB 9 found) :: K52m7) bg u.plOk (by kernel_rfl) fun a8 av => ?_)
  rcases Bool.eq_false_or_eq_true (found) with ag | ag
  ·
   rw [ag, cond_true] at x
   have bh : Kn 42 (K52e3 b_found b_least b_best b_r_ a f) K52m9 a8 := (av.setB 9 true (by rfl) ag).keep [9, 7, 6, 2, 3, 4, 5] (by rfl)
   refine R_runk 2 4 [13, 9, 7, 6, 2, 3, 4, 5] ((tB 13 ((c.number == least.number) && ((c.sum == least.sum) && true))) :: K52m9) bh u.plOk (by kernel_rfl) fun a9 aw => ?_
   rcases Bool.eq_false_or_eq_true (((c.number == least.number) && ((c.sum == least.sum) && true))) with ah | ah
   ·
    rw [ah, cond_true] at x
    have bi : Kn 42 (K52e3 b_found b_least b_best b_r_ a f) ((tB 13 true) :: K52m9) a9 := (aw.setB 13 true (by rfl) ah).keep [13, 9, 7, 6, 2, 3, 4, 5] (by rfl)
    refine R_runk 6 21 [34, 7, 6, 2, 3, 4, 5] ((tB 34 true) :: K52m7) bi u.plOk (by kernel_rfl) fun cj bj => ?_
    refine wpFrom_end (by decide) ?_
    obtain rfl := Option.some.inj x
    exact Exists.intro _ ⟨_, rfl, (bj.keep [7, 6, 2, 3, 4, 5, 34] (by rfl)), u, (Heap.le_refl _)⟩
   ·
    rw [ah, cond_false] at x
    have bk : Kn 42 (K52e3 b_found b_least b_best b_r_ a f) ((tB 13 false) :: K52m9) a9 := (aw.setB 13 false (by rfl) ah).keep [13, 9, 7, 6, 2, 3, 4, 5] (by rfl)
    refine R_runk 6 7 [20, 9, 7, 6, 2, 3, 4, 5] ((tB 20 (decide (c.number > least.number))) :: K52m9) bk u.plOk (by kernel_rfl) fun ba ax => ?_
    rcases Bool.eq_false_or_eq_true (decide (c.number > least.number)) with ai | ai
    ·
     rw [ai, cond_true] at x
     have bl : Kn 42 (K52e3 b_found b_least b_best b_r_ a f) ((tB 20 true) :: K52m9) ba := (ax.setB 20 true (by rfl) ai).keep [20, 9, 7, 6, 2, 3, 4, 5] (by rfl)
     refine R_runk 13 14 [34, 7, 6, 2, 3, 4, 5] ((tB 34 true) :: K52m7) bl u.plOk (by kernel_rfl) fun ck bm => ?_
     refine wpFrom_end (by decide) ?_
     obtain rfl := Option.some.inj x
     exact Exists.intro _ ⟨_, rfl, (bm.keep [7, 6, 2, 3, 4, 5, 34] (by rfl)), u, (Heap.le_refl _)⟩
    ·
     rw [ai, cond_false] at x
     have bn : Kn 42 (K52e3 b_found b_least b_best b_r_ a f) ((tB 20 false) :: K52m9) ba := (ax.setB 20 false (by rfl) ai).keep [20, 9, 7, 6, 2, 3, 4, 5] (by rfl)
     refine R_runk 13 6 [26, 20, 9, 7, 6, 2, 3, 4, 5] ((tB 26 (c.number == least.number)) :: (tB 20 false) :: K52m9) bn u.plOk (by kernel_rfl) fun bb ay => ?_
     rcases Bool.eq_false_or_eq_true ((c.number == least.number)) with aj | aj
     ·
      rw [aj, cond_true] at x
      have bo : Kn 42 (K52e3 b_found b_least b_best b_r_ a f) ((tB 26 true) :: (tB 20 false) :: K52m9) bb := (ay.setB 26 true (by rfl) aj).keep [26, 20, 9, 7, 6, 2, 3, 4, 5] (by rfl)
      refine R_runk 19 8 [34, 7, 6, 2, 3, 4, 5] ((tB 34 (decide (c.sum > least.sum))) :: K52m7) bo u.plOk (by kernel_rfl) fun cl bp => ?_
      refine wpFrom_end (by decide) ?_
      obtain rfl := Option.some.inj x
      exact Exists.intro _ ⟨_, rfl, (bp.keep [7, 6, 2, 3, 4, 5, 34] (by rfl)), u, (Heap.le_refl _)⟩
     ·
      rw [aj, cond_false] at x
      have bq : Kn 42 (K52e3 b_found b_least b_best b_r_ a f) ((tB 26 false) :: (tB 20 false) :: K52m9) bb := (ay.setB 26 false (by rfl) aj).keep [26, 20, 9, 7, 6, 2, 3, 4, 5] (by rfl)
      refine R_runk 19 8 [34, 7, 6, 2, 3, 4, 5] ((tB 34 false) :: K52m7) bq u.plOk (by kernel_rfl) fun cm br => ?_
      refine wpFrom_end (by decide) ?_
      obtain rfl := Option.some.inj x
      exact Exists.intro _ ⟨_, rfl, (br.keep [7, 6, 2, 3, 4, 5, 34] (by rfl)), u, (Heap.le_refl _)⟩
  ·
   rw [ag, cond_false] at x
   have bs : Kn 42 (K52e3 b_found b_least b_best b_r_ a f) ((tB 9 false) :: K52m7) a8 := (av.setB 9 false (by rfl) ag).keep [9, 7, 6, 2, 3, 4, 5] (by rfl)
   refine R_runk 2 25 [34, 7, 6, 2, 3, 4, 5] ((tB 34 false) :: K52m7) bs u.plOk (by kernel_rfl) fun cn bt => ?_
   refine wpFrom_end (by decide) ?_
   obtain rfl := Option.some.inj x
   exact Exists.intro _ ⟨_, rfl, (bt.keep [7, 6, 2, 3, 4, 5, 34] (by rfl)), u, (Heap.le_refl _)⟩
 ·
  rintro _ cr ⟨au, ad, rfl, ar, al, z⟩
  replace aa := aa.mono z
  replace ab := ab.mono z
  replace ac := ac.mono z
  replace hb_r_ := hb_r_.mono z
  refine wp_cond_sv (a6) ar (by kernel_rfl) (fun ap => ?_) (fun ap => ?_)
  ·
   rw [ap, cond_true] at H
   refine wp_ret ?_
   obtain rfl := Option.some.inj H
   exact retM_of (.tup []) ar al (by kernel_rfl) ⟨ad, z, rfl, ((al.cutRw 0).cutPl 3 (by kernel_rfl))⟩
  ·
   rw [ap, cond_false] at H
   refine wp_skip (wp_seq (wp_region_from (R_runk 0 4 [38, 36, 35, 7, 6, 2, 3, 5] ((tI 38 r_.gap) :: (tA 36 (K52c5 d)) :: (tA 35 (K52c4 g r_ m k p l q)) :: (tP 7 5 0) :: (tP 6 4 0) :: K52m8) ar al.plOk (by kernel_rfl) fun co bu => ?_)))
   obtain ⟨x39, ex39, H⟩ := bnd H
   refine wpFrom_loud _ rfl (rfl) fun K hK => ?_
   refine wp_call [.agg (K52c4 g r_ m k p l q), .agg (K52c5 d), .c (.int .i64 r_.gap)] _ bu al rfl rfl (by decide) (by rfl) rfl (fun _ _ => by kernel_rfl) (control_Route_keeps_ok n al.has r_ ((rep_pair (rep_slice aa) (rep_pair (rep_pair rep_int rep_int) (rep_pair (rep_slice ab) (rep_pair (rep_slice ac) (rep_pair rep_int (rep_pair rep_int (rep_pair rep_int rep_int))))))) : rep ad r_ _) d ((rep_pair (rep_pair rep_int (rep_pair rep_int (rep_pair rep_int rep_int))) (rep_pair (rep_pair rep_int (rep_pair rep_int (rep_pair rep_int rep_int))) (rep_pair rep_bool rep_bool))) : rep ad d _) r_.gap ex39) fun cq am ct bd af y => ?_
   replace aa := aa.mono af
   replace ab := ab.mono af
   replace ac := ac.mono af
   replace hb_r_ := hb_r_.mono af
   obtain rfl := bd
   refine ⟨.one (.c (.bool x39)), rfl, fun bc (bv : Kn 42 (K52e3 b_found b_least b_best b_r_ a f) ((tB 39 x39) :: (tI 38 r_.gap) :: (tA 36 (K52c5 d)) :: (tA 35 (K52c4 g r_ m k p l q)) :: (tP 7 5 0) :: (tP 6 4 0) :: K52m8) bc) => hK _ _ ?_⟩
   have az : Kn 42 (K52e3 b_found b_least b_best b_r_ a f) ((tB 39 x39) :: (tP 7 5 0) :: (tP 6 4 0) :: K52m8) bc := bv.keep [39, 7, 6, 2, 3, 5] (by rfl)
   refine wpFrom_end (by decide) (wp_cond_sv (x39) az (by kernel_rfl) (fun aq => ?_) (fun aq => ?_))
   ·
    rw [aq, cond_true] at H
    refine wp_region_G (by kernel_rfl) ?_
    replace y := y.drew
    refine wpG_of_D [1] (K52e3 b_found b_least b_best b_r_ a f) [⟨[.bool found], some 4⟩, ⟨(K52c2 least), some 104⟩, ⟨[], some 102⟩, ⟨(K52c4 g r_ m k p l q), none⟩, ⟨(K52c5 d), some 102⟩, ⟨(K52c1 c), some 104⟩] ?_
    refine D_run [0] [0] [40, 7, 2, 3, 5] ((tA 40 (K52c5 d)) :: (tP 7 5 0) :: K52m8) (fun _ _ _ _ _ h => h) az (PlOk.forget [2] y.plOk) (by kernel_rfl) (by rfl) (by kernel_rfl) fun cp a4 => ?_
    refine D_share (fun W => ∀ a' w', (∃ (ao : Array Value) (ae : Heap), a' = ⟨ao, []⟩ ∧ Kn 42 (K52e3 b_found b_least b_best b_r_ a f) [(tA 41 (K52c1 c)), (tP 2 0 0), (tP 3 1 0)] ao ∧ Mem F ae (K52e3 b_found b_least b_best b_r_ a f) [⟨[.bool found], some 4⟩, ⟨(K52c2 least), some 104⟩, ⟨(K52c5 d), some 102⟩, ⟨(K52c4 g r_ m k p l q), none⟩, ⟨(K52c5 d), some 102⟩, ⟨(K52c1 c), some 104⟩] [] w' ∧ Heap.le am ae) → W (K52e3 b_found b_least b_best b_r_ a f) [⟨[.bool found], some 4⟩, ⟨(K52c2 least), some 104⟩, ⟨[], some 102⟩, ⟨(K52c4 g r_ m k p l q), none⟩, ⟨(K52c5 d), some 102⟩, ⟨(K52c1 c), some 104⟩] [1, 2, 0] a' w') ?_ (fun a5 => ?_)
    ·
     rintro _ cu ⟨ao, ae, rfl, bw, b5, ak⟩
     replace aa := aa.mono ak
     replace ab := ab.mono ak
     replace ac := ac.mono ak
     replace hb_r_ := hb_r_.mono ak
     refine D_sync 3 rfl (by kernel_rfl) (by decide) (rfl) (by kernel_rfl) fun K hK => ?_
     refine wp_store 1 0 (.agg (K52c1 c)) (K52c1 c) bw b5 rfl rfl (by rfl) (by rfl) (by rfl) (by kernel_rfl) (by kernel_rfl) (by rfl) fun ce bx (b6 : Mem F ae (K52e3 b_found b_least b_best b_r_ a f) [⟨[.bool found], some 4⟩, ⟨(K52c1 c), some 104⟩, ⟨(K52c5 d), some 102⟩, ⟨(K52c4 g r_ m k p l q), none⟩, ⟨(K52c5 d), some 102⟩, ⟨(K52c1 c), some 104⟩] [] ce) => hK _ _ ?_
     refine wpG_of_D [1] (K52e3 b_found b_least b_best b_r_ a f) [⟨[.bool found], some 4⟩, ⟨(K52c1 c), some 104⟩, ⟨[], some 102⟩, ⟨(K52c4 g r_ m k p l q), none⟩, ⟨(K52c5 d), some 102⟩, ⟨(K52c1 c), some 104⟩] ?_
     refine D_sync 4 rfl (by kernel_rfl) (by decide) (rfl) (by kernel_rfl) fun K hK => ?_
     refine wp_store 0 0 (.c (.bool true)) [.bool true] bx b6 rfl rfl (by rfl) (by rfl) (by rfl) (by kernel_rfl) (by kernel_rfl) (by rfl) fun cf bz (b7 : Mem F ae (K52e3 b_found b_least b_best b_r_ a f) [⟨[.bool true], some 4⟩, ⟨(K52c1 c), some 104⟩, ⟨(K52c5 d), some 102⟩, ⟨(K52c4 g r_ m k p l q), none⟩, ⟨(K52c5 d), some 102⟩, ⟨(K52c1 c), some 104⟩] [] cf) => hK _ _ ?_
     refine wpG_of_D [1] (K52e3 b_found b_least b_best b_r_ a f) [⟨[.bool true], some 4⟩, ⟨(K52c1 c), some 104⟩, ⟨[], some 102⟩, ⟨(K52c4 g r_ m k p l q), none⟩, ⟨(K52c5 d), some 102⟩, ⟨(K52c1 c), some 104⟩] ?_
     have ci : Kn 42 (K52e3 b_found b_least b_best b_r_ a f) [] ao := bz.keep [] (by rfl)
     refine wpD_end (by kernel_rfl) ?_
     obtain rfl := Option.some.inj H
     exact endM_of rfl ⟨ae, (Heap.le_trans z (Heap.le_trans af ak)), rfl, ((b7.cutRw 0).cutPl 3 (by kernel_rfl))⟩
    refine D_two 1 2 rfl rfl (by kernel_rfl) (by decide) (rfl) (rfl) (fun K hK => ?_) (fun K hK => ?_)
    ·
     refine wp_quiet a4 (PlOk.forget [2] y.plOk) rfl (by decide) (by kernel_rfl) fun ca (b0 : Kn 42 (K52e3 b_found b_least b_best b_r_ a f) ((tA 41 (K52c1 c)) :: (tA 40 (K52c5 d)) :: (tP 7 5 0) :: K52m8) ca) => hK _ _ (PlOk.forget [2] y.plOk) ?_
     refine D_sync 2 rfl (by kernel_rfl) (by decide) (rfl) (by kernel_rfl) fun K hK => ?_
     refine wp_store 2 0 (.agg (K52c5 d)) (K52c5 d) b0 y rfl rfl (by rfl) (by rfl) (by rfl) (by kernel_rfl) (by kernel_rfl) (by rfl) fun cg b1 (b8 : Mem F am (K52e3 b_found b_least b_best b_r_ a f) [⟨[.bool found], some 4⟩, ⟨(K52c2 least), some 104⟩, ⟨(K52c5 d), some 102⟩, ⟨(K52c4 g r_ m k p l q), none⟩, ⟨(K52c5 d), some 102⟩, ⟨(K52c1 c), some 104⟩] [] cg) => hK _ _ ?_
     refine wpG_of_D [1] (K52e3 b_found b_least b_best b_r_ a f) [⟨[.bool found], some 4⟩, ⟨(K52c2 least), some 104⟩, ⟨[], some 102⟩, ⟨(K52c4 g r_ m k p l q), none⟩, ⟨(K52c5 d), some 102⟩, ⟨(K52c1 c), some 104⟩] ?_
     refine D_perm [1, 2, 0] (by kernel_rfl) (by rfl) (a5 _ _ ?_)
     exact Exists.intro _ ⟨_, rfl, (b1.keep [41, 2, 3] (by rfl)), b8, (Heap.le_refl _)⟩
    ·
     refine wp_store 2 0 (.agg (K52c5 d)) (K52c5 d) a4 y rfl rfl (by rfl) (by rfl) (by rfl) (by kernel_rfl) (by kernel_rfl) (by rfl) fun ch b2 (an : Mem F am (K52e3 b_found b_least b_best b_r_ a f) [⟨[.bool found], some 4⟩, ⟨(K52c2 least), some 104⟩, ⟨(K52c5 d), some 102⟩, ⟨(K52c4 g r_ m k p l q), none⟩, ⟨(K52c5 d), some 102⟩, ⟨(K52c1 c), some 104⟩] [] ch) => hK _ _ (PlOk.forget [2] an.plOk) ?_
     refine D_loud 1 rfl (by kernel_rfl) (by decide) (rfl) fun K hK => ?_
     refine wp_quiet b2 (PlOk.forget [2] an.plOk) rfl (by decide) (by kernel_rfl) fun cb (b3 : Kn 42 (K52e3 b_found b_least b_best b_r_ a f) ((tA 41 (K52c1 c)) :: (tA 40 (K52c5 d)) :: (tP 7 5 0) :: K52m8) cb) => hK _ _ (PlOk.forget [2] an.plOk) ?_
     refine D_perm [1, 2, 0] (by kernel_rfl) (by rfl) (a5 _ _ ?_)
     exact Exists.intro _ ⟨_, rfl, (b3.keep [41, 2, 3] (by rfl)), an, (Heap.le_refl _)⟩
   ·
    rw [aq, cond_false] at H
    refine wp_skip ?_
    obtain rfl := Option.some.inj H
    exact endM_of rfl ⟨am, (Heap.le_trans z af), rfl, ((y.cutRw 0).cutPl 3 (by kernel_rfl))⟩
theorem control_Best_1_SOk {h0 : Heap} {b_found b_least b_best : Nat} : SOk (control_Best_1_XS h0 b_found b_least b_best) (control_Best_1_B b_found b_least b_best) := by
 refine ⟨fun s F F' h h' hs hle hX hh => ?_, fun s F h hs b hb => ?_⟩
 ·
  obtain ⟨h9, ⟨d0_1, d0_2, d1_2, _⟩, ⟨f0, n0⟩, ⟨f1, n1⟩, ⟨f2, n2⟩, _⟩ := hs
  exact ⟨Heap.le_trans h9 hle, ⟨d0_1, d0_2, d1_2, trivial⟩, ⟨(hX _ (.inl rfl)).trans f0, fun o => none_of (hh _ (.inl rfl) o) (n0 o)⟩, ⟨(hX _ (.inr (.inl rfl))).trans f1, fun o => none_of (hh _ (.inr (.inl rfl)) o) (n1 o)⟩, ⟨(hX _ (.inr (.inr (rfl)))).trans f2, fun o => none_of (hh _ (.inr (.inr (rfl))) o) (n2 o)⟩, trivial⟩
 ·
  obtain ⟨h9, ⟨d0_1, d0_2, d1_2, _⟩, ⟨f0, n0⟩, ⟨f1, n1⟩, ⟨f2, n2⟩, _⟩ := hs
  rcases hb with rfl | rfl | rfl
  ·
   rw [f0]; rfl
  ·
   rw [f1]; rfl
  ·
   rw [f2]; rfl
theorem control_Best_1_start {fw : World} {h : Heap} {Y : Nat → Option Obj} {w : World} {b_found b_least b_best : Nat} (s : Bool × Cost × Deeds) (hl : Mem ⟨fw, h, Y⟩ h [(b_found, 0), (b_least, 0), (b_best, 0)] [⟨[.bool s.1], some 4⟩, ⟨[.int .i64 s.2.1.number, .int .i64 s.2.1.sum], some 104⟩, ⟨[.int .i64 s.2.2.holds.a0, .int .i64 s.2.2.holds.a1, .int .i64 s.2.2.holds.a2, .int .i64 s.2.2.holds.a3, .int .i64 s.2.2.turns.a0, .int .i64 s.2.2.turns.a1, .int .i64 s.2.2.turns.a2, .int .i64 s.2.2.turns.a3, .bool s.2.2.spares.a0, .bool s.2.2.spares.a1], some 102⟩] [] w) :
  ∃ F1 : Fr, Mem F1 h [] [] [] w ∧ control_Best_1_XS h b_found b_least b_best s F1 h ∧ ∀ (G : Fr) (h' : Heap) (w' : World) (s' : Bool × Cost × Deeds), Heap.le h h' → Fr.Sim (control_Best_1_B b_found b_least b_best) F1 G → control_Best_1_XS h b_found b_least b_best s' G h' → Mem G h' [] [] [] w' →
   Mem ⟨fw, h, Y⟩ h' [(b_found, 0), (b_least, 0), (b_best, 0)] [⟨[.bool s'.1], some 4⟩, ⟨[.int .i64 s'.2.1.number, .int .i64 s'.2.1.sum], some 104⟩, ⟨[.int .i64 s'.2.2.holds.a0, .int .i64 s'.2.2.holds.a1, .int .i64 s'.2.2.holds.a2, .int .i64 s'.2.2.holds.a3, .int .i64 s'.2.2.turns.a0, .int .i64 s'.2.2.turns.a1, .int .i64 s'.2.2.turns.a2, .int .i64 s'.2.2.turns.a3, .bool s'.2.2.spares.a0, .bool s'.2.2.spares.a1], some 102⟩] [] w' ∧ True := by
 have d0_1 : b_found ≠ b_least := hl.blk_ne (i := 0) (j := 1) rfl rfl rfl rfl (by decide)
 have d0_2 : b_found ≠ b_best := hl.blk_ne (i := 0) (j := 2) rfl rfl rfl rfl (by decide)
 have d1_2 : b_least ≠ b_best := hl.blk_ne (i := 1) (j := 2) rfl rfl rfl rfl (by decide)
 have px0 : Y b_found = none := hl.placeX (i := 0) rfl rfl
 have px1 : Y b_least = none := hl.placeX (i := 1) rfl rfl
 have px2 : Y b_best = none := hl.placeX (i := 2) rfl rfl
 obtain ⟨q2, n2⟩ := Mem.hide (e := [(b_found, 0), (b_least, 0)]) (pl := [⟨[.bool s.1], some 4⟩, ⟨[.int .i64 s.2.1.number, .int .i64 s.2.1.sum], some 104⟩]) (b := b_best) (T := 102) (cs := [.int .i64 s.2.2.holds.a0, .int .i64 s.2.2.holds.a1, .int .i64 s.2.2.holds.a2, .int .i64 s.2.2.holds.a3, .int .i64 s.2.2.turns.a0, .int .i64 s.2.2.turns.a1, .int .i64 s.2.2.turns.a2, .int .i64 s.2.2.turns.a3, .bool s.2.2.spares.a0, .bool s.2.2.spares.a1]) ([.int .i64 s.2.2.holds.a0, .int .i64 s.2.2.holds.a1, .int .i64 s.2.2.holds.a2, .int .i64 s.2.2.holds.a3, .int .i64 s.2.2.turns.a0, .int .i64 s.2.2.turns.a1, .int .i64 s.2.2.turns.a2, .int .i64 s.2.2.turns.a3, .bool s.2.2.spares.a0, .bool s.2.2.spares.a1] : List Value) hl rfl (by kernel_rfl) rfl
 obtain ⟨q1, n1⟩ := Mem.hide (e := [(b_found, 0)]) (pl := [⟨[.bool s.1], some 4⟩]) (b := b_least) (T := 104) (cs := [.int .i64 s.2.1.number, .int .i64 s.2.1.sum]) ([.int .i64 s.2.1.number, .int .i64 s.2.1.sum] : List Value) q2 rfl (by kernel_rfl) rfl
 obtain ⟨q0, n0⟩ := Mem.hide (e := []) (pl := []) (b := b_found) (T := 4) (cs := [.bool s.1]) ([.bool s.1] : List Value) q1 rfl (by kernel_rfl) rfl
 refine ⟨_, q0, ⟨Heap.le_refl _, ⟨d0_1, d0_2, d1_2, trivial⟩, ⟨(Fr.put_X _ _ _), n0⟩, ⟨((Fr.put_ne _ _ d0_1.symm).trans (Fr.put_X _ _ _)), n1⟩, ⟨((Fr.put_ne _ _ d0_2.symm).trans ((Fr.put_ne _ _ d1_2.symm).trans (Fr.put_X _ _ _))), n2⟩, trivial⟩, fun G h' w' s' hle hsim hs' hm' => ?_⟩
 obtain ⟨h9, _, ⟨f0, g0⟩, ⟨f1, g1⟩, ⟨f2, g2⟩, _⟩ := hs'
 have u0 := Mem.unhide (e := []) (pl := []) (b := b_found) (T := 4) (cs := [.bool s'.1]) ([.bool s'.1] : List Value) hm' f0 g0 rfl (by kernel_rfl) (by kernel_rfl) rfl
 have u1 := Mem.unhide (e := [(b_found, 0)]) (pl := [⟨[.bool s'.1], some 4⟩]) (b := b_least) (T := 104) (cs := [.int .i64 s'.2.1.number, .int .i64 s'.2.1.sum]) ([.int .i64 s'.2.1.number, .int .i64 s'.2.1.sum] : List Value) u0 ((Fr.put_ne _ _ d0_1.symm).trans f1) g1 rfl (by kernel_rfl) (by kernel_rfl) rfl
 have u2 := Mem.unhide (e := [(b_found, 0), (b_least, 0)]) (pl := [⟨[.bool s'.1], some 4⟩, ⟨[.int .i64 s'.2.1.number, .int .i64 s'.2.1.sum], some 104⟩]) (b := b_best) (T := 102) (cs := [.int .i64 s'.2.2.holds.a0, .int .i64 s'.2.2.holds.a1, .int .i64 s'.2.2.holds.a2, .int .i64 s'.2.2.holds.a3, .int .i64 s'.2.2.turns.a0, .int .i64 s'.2.2.turns.a1, .int .i64 s'.2.2.turns.a2, .int .i64 s'.2.2.turns.a3, .bool s'.2.2.spares.a0, .bool s'.2.2.spares.a1]) ([.int .i64 s'.2.2.holds.a0, .int .i64 s'.2.2.holds.a1, .int .i64 s'.2.2.holds.a2, .int .i64 s'.2.2.holds.a3, .int .i64 s'.2.2.turns.a0, .int .i64 s'.2.2.turns.a1, .int .i64 s'.2.2.turns.a2, .int .i64 s'.2.2.turns.a3, .bool s'.2.2.spares.a0, .bool s'.2.2.spares.a1] : List Value) u1 ((Fr.put_ne _ _ d1_2.symm).trans ((Fr.put_ne _ _ d0_2.symm).trans f2)) g2 rfl (by kernel_rfl) (by kernel_rfl) rfl
 have hF : Fr.put (Fr.put (Fr.put G b_found none) b_least none) b_best none = ⟨fw, h, Y⟩ := by
  refine Fr.eqOf hsim.w hsim.h fun b => ?_
  by_cases e2 : b = b_best
  ·
   subst e2; rw [Fr.put_X]; exact px2.symm
  rw [Fr.put_ne _ _ e2]
  by_cases e1 : b = b_least
  ·
   subst e1; rw [Fr.put_X]; exact px1.symm
  rw [Fr.put_ne _ _ e1]
  by_cases e0 : b = b_found
  ·
   subst e0; rw [Fr.put_X]; exact px0.symm
  rw [Fr.put_ne _ _ e0]
  refine (hsim.X b (fun hb => by rcases hb with hb | hb | hb <;> contradiction)).trans ?_
  rw [Fr.put_ne _ _ e0, Fr.put_ne _ _ e1, Fr.put_ne _ _ e2]
 rw [hF] at u2
 exact ⟨u2, trivial⟩
theorem control_Best_1_see (n : Nat) {h0 : Heap} {b_found b_least b_best : Nat} {b_r_ : Nat} (r_ : Route) (hb_r_ : BoxS h0 b_r_ r_) : See1 (control_Best_1_XS h0 b_found b_least b_best) (control_Best_1_B b_found b_least b_best) (.func (.func 52) #[] #[.pointer (some ⟨b_found, 0, none⟩), .pointer (some ⟨b_least, 0, none⟩), .pointer (some ⟨b_r_, 0, none⟩), .pointer (some ⟨b_best, 0, none⟩)]) (fun s x0 x1 => control_Best_1 n x0 x1 s.1 s.2.1 s.2.2 r_) := by
 intro s F h w x0 cs0 hx0 x1 cs1 hx1 s' hs hm H
 obtain ⟨h9, ⟨d0_1, d0_2, d1_2, _⟩, ⟨f0, n0⟩, ⟨f1, n1⟩, ⟨f2, n2⟩, _⟩ := hs
 have u0 := Mem.unhide (e := []) (pl := []) (b := b_found) (T := 4) (cs := [.bool s.1]) ([.bool s.1] : List Value) hm f0 n0 rfl (by kernel_rfl) (by kernel_rfl) rfl
 have u1 := Mem.unhide (e := [(b_found, 0)]) (pl := [⟨[.bool s.1], some 4⟩]) (b := b_least) (T := 104) (cs := [.int .i64 s.2.1.number, .int .i64 s.2.1.sum]) ([.int .i64 s.2.1.number, .int .i64 s.2.1.sum] : List Value) u0 ((Fr.put_ne _ _ d0_1.symm).trans f1) n1 rfl (by kernel_rfl) (by kernel_rfl) rfl
 have u2 := Mem.unhide (e := [(b_found, 0), (b_least, 0)]) (pl := [⟨[.bool s.1], some 4⟩, ⟨[.int .i64 s.2.1.number, .int .i64 s.2.1.sum], some 104⟩]) (b := b_best) (T := 102) (cs := [.int .i64 s.2.2.holds.a0, .int .i64 s.2.2.holds.a1, .int .i64 s.2.2.holds.a2, .int .i64 s.2.2.holds.a3, .int .i64 s.2.2.turns.a0, .int .i64 s.2.2.turns.a1, .int .i64 s.2.2.turns.a2, .int .i64 s.2.2.turns.a3, .bool s.2.2.spares.a0, .bool s.2.2.spares.a1]) ([.int .i64 s.2.2.holds.a0, .int .i64 s.2.2.holds.a1, .int .i64 s.2.2.holds.a2, .int .i64 s.2.2.holds.a3, .int .i64 s.2.2.turns.a0, .int .i64 s.2.2.turns.a1, .int .i64 s.2.2.turns.a2, .int .i64 s.2.2.turns.a3, .bool s.2.2.spares.a0, .bool s.2.2.spares.a1] : List Value) u1 ((Fr.put_ne _ _ d1_2.symm).trans ((Fr.put_ne _ _ d0_2.symm).trans f2)) n2 rfl (by kernel_rfl) (by kernel_rfl) rfl
 refine ⟨52, _, _, rfl, fun _ _ => by kernel_rfl, Calls.mono (control_Best_1_ok n x0 hx0 x1 hx1 s.1 s.2.1 s.2.2 r_ (hb_r_.mono h9) u2 H) ?_⟩
 rintro en w' ⟨v, rfl, h2, hle, rfl, m2⟩
 obtain ⟨q2, _⟩ := Mem.hide (e := [(b_found, 0), (b_least, 0)]) (pl := [⟨[.bool s'.1], some 4⟩, ⟨[.int .i64 s'.2.1.number, .int .i64 s'.2.1.sum], some 104⟩]) (b := b_best) (T := 102) (cs := [.int .i64 s'.2.2.holds.a0, .int .i64 s'.2.2.holds.a1, .int .i64 s'.2.2.holds.a2, .int .i64 s'.2.2.holds.a3, .int .i64 s'.2.2.turns.a0, .int .i64 s'.2.2.turns.a1, .int .i64 s'.2.2.turns.a2, .int .i64 s'.2.2.turns.a3, .bool s'.2.2.spares.a0, .bool s'.2.2.spares.a1]) ([.int .i64 s'.2.2.holds.a0, .int .i64 s'.2.2.holds.a1, .int .i64 s'.2.2.holds.a2, .int .i64 s'.2.2.holds.a3, .int .i64 s'.2.2.turns.a0, .int .i64 s'.2.2.turns.a1, .int .i64 s'.2.2.turns.a2, .int .i64 s'.2.2.turns.a3, .bool s'.2.2.spares.a0, .bool s'.2.2.spares.a1] : List Value) m2 rfl (by kernel_rfl) rfl
 obtain ⟨q1, _⟩ := Mem.hide (e := [(b_found, 0)]) (pl := [⟨[.bool s'.1], some 4⟩]) (b := b_least) (T := 104) (cs := [.int .i64 s'.2.1.number, .int .i64 s'.2.1.sum]) ([.int .i64 s'.2.1.number, .int .i64 s'.2.1.sum] : List Value) q2 rfl (by kernel_rfl) rfl
 obtain ⟨q0, _⟩ := Mem.hide (e := []) (pl := []) (b := b_found) (T := 4) (cs := [.bool s'.1]) ([.bool s'.1] : List Value) q1 rfl (by kernel_rfl) rfl
 refine ⟨_, rfl, rfl, h2, Fr.put (Fr.put (Fr.put (Fr.put (Fr.put (Fr.put F b_found none) b_least none) b_best none) b_best (some (.cells ([.int .i64 s'.2.2.holds.a0, .int .i64 s'.2.2.holds.a1, .int .i64 s'.2.2.holds.a2, .int .i64 s'.2.2.holds.a3, .int .i64 s'.2.2.turns.a0, .int .i64 s'.2.2.turns.a1, .int .i64 s'.2.2.turns.a2, .int .i64 s'.2.2.turns.a3, .bool s'.2.2.spares.a0, .bool s'.2.2.spares.a1] : List Value).toArray 102 (0, 0)))) b_least (some (.cells ([.int .i64 s'.2.1.number, .int .i64 s'.2.1.sum] : List Value).toArray 104 (0, 0)))) b_found (some (.cells ([.bool s'.1] : List Value).toArray 4 (0, 0))), hle, ⟨rfl, rfl, fun b hb => ?_⟩, ⟨Heap.le_trans h9 hle, ⟨d0_1, d0_2, d1_2, trivial⟩, ⟨(Fr.put_X _ _ _), n0⟩, ⟨((Fr.put_ne _ _ d0_1.symm).trans (Fr.put_X _ _ _)), n1⟩, ⟨((Fr.put_ne _ _ d0_2.symm).trans ((Fr.put_ne _ _ d1_2.symm).trans (Fr.put_X _ _ _))), n2⟩, trivial⟩, q0⟩
 have e0 : b ≠ b_found := fun e => hb (.inl e)
 have e1 : b ≠ b_least := fun e => hb (.inr (.inl e))
 have e2 : b ≠ b_best := fun e => hb (.inr (.inr (e)))
 rw [Fr.put_ne _ _ e0, Fr.put_ne _ _ e1, Fr.put_ne _ _ e2, Fr.put_ne _ _ e2, Fr.put_ne _ _ e1, Fr.put_ne _ _ e0]

abbrev K14c1 : List SC := [.slice none 0 0, .slice none 0 0, .slice none 0 0]
abbrev K14e2 (a l m o p : Nat) : Env := [(a, 0), (l, 0), (m, 0), (o, 0), (p, 0)]
abbrev K14c3 (y : Option Addr) (x22 : Acts) (ab : Nat) (z : Option Addr) (ac : Nat) (aa : Option Addr) (ad : Nat) : List SC := [.slice y x22.holds.length ab, .slice z x22.turns.length ac, .slice aa x22.spares.length ad]
abbrev K14c4 : List SC := [.int .i64 0, .int .i64 0, .int .i64 0, .int .i64 0, .int .i64 0, .int .i64 0, .int .i64 0, .int .i64 0, .bool false, .bool false]
abbrev K14c5 (b : Option Addr) (r_ : Route) (g : Nat) (d : Option Addr) (j : Nat) (f : Option Addr) (k : Nat) : List SC := [.slice b r_.legs.length g, .int .i64 r_.turn.lo, .int .i64 r_.turn.hi, .slice d r_.buses.length j, .slice f r_.spares.length k, .int .i64 r_.unit, .int .i64 r_.gap, .int .i64 r_.fr, .int .i64 r_.to_]
abbrev K14c6 (x16 : (Bool × Cost × Deeds)) : List SC := [.int .i64 x16.2.2.holds.a0, .int .i64 x16.2.2.holds.a1, .int .i64 x16.2.2.holds.a2, .int .i64 x16.2.2.holds.a3, .int .i64 x16.2.2.turns.a0, .int .i64 x16.2.2.turns.a1, .int .i64 x16.2.2.turns.a2, .int .i64 x16.2.2.turns.a3, .bool x16.2.2.spares.a0, .bool x16.2.2.spares.a1]
abbrev K14m7 : TM := [(tP 2 1 0), (tP 1 0 0)]
set_option maxRecDepth 100000 in
set_option maxHeartbeats 4000000 in
theorem control_Best_ok (n : Nat) {h : Heap} {w : World} (hh : Has h w) (r_ : Route) {cs_r_ : List Value} (hx_r_ : rep h r_ cs_r_) {r : Acts × Int} (H : control_Best n r_ = some r) :
  Calls Try.prog 14 #[.agg cs_r_.toArray] w (Ret (fun h v => ∃ v0 v1, v = .tuple #[v0, v1] ∧ (∃ cs, v0 = .agg cs.toArray ∧ rep h r.1 cs) ∧ (v1 = .int .i64 r.2)) h w) := by
 obtain ⟨_, _, rfl, ⟨b, g, rfl, q⟩, ⟨_, _, rfl, ⟨_, _, rfl, rfl, rfl⟩, ⟨_, _, rfl, ⟨d, j, rfl, u⟩, ⟨_, _, rfl, ⟨f, k, rfl, x⟩, ⟨_, _, rfl, rfl, ⟨_, _, rfl, rfl, ⟨_, _, rfl, rfl, rfl⟩⟩⟩⟩⟩⟩⟩ := hx_r_
 refine enter 23 [.agg (K14c5 b r_ g d j f k)] Try.func14 rfl rfl rfl rfl fun t hk => ?_
 have hm := Mem.begin h w hh
 unfold control_Best at H
 refine wp_seq (wp_region_from (wpFrom_loud _ rfl (rfl) fun K hK => ?_))
 refine wp_box (.agg (K14c5 b r_ g d j f k)) hk hm rfl rfl (by decide) (by kernel_rfl) (by kernel_rfl) (by kernel_rfl) fun a ck ct (bm : Kn 23 [(a, 0)] [(tP 1 0 0), (tA 0 (K14c5 b r_ g d j f k))] ck) (b9 : Mem ⟨w, h, noX⟩ h [(a, 0)] [⟨(K14c5 b r_ g d j f k), some 43⟩] [] ct) => hK _ _ ?_
 refine wpFrom_loud _ rfl (rfl) fun K hK => ?_
 refine wp_alloc K14c1 bm b9 rfl rfl (by decide) (by kernel_rfl) (by kernel_rfl) (by kernel_rfl) fun l cm cv (bn : Kn 23 [(a, 0), (l, 0)] [(tP 2 1 0), (tP 1 0 0), (tA 0 (K14c5 b r_ g d j f k))] cm) (an : Mem ⟨w, h, noX⟩ h [(a, 0), (l, 0)] [⟨(K14c5 b r_ g d j f k), some 43⟩, ⟨K14c1, some 34⟩] [] cv) => hK _ _ ?_
 refine R_runk 2 1 [2, 1] K14m7 bn an.plOk (by kernel_rfl) fun c8 bo => ?_
 refine wpFrom_end (by decide) (wp_seq (wp_seq (wp_region_from (R_runk 0 1 [8, 2, 1] ((tA 8 (K14c5 b r_ g d j f k)) :: K14m7) bo an.plOk (by kernel_rfl) fun c9 bp => ?_))))
 obtain ⟨x9, ex9, H⟩ := bnd H
 refine wpFrom_loud _ rfl (rfl) fun K hK => ?_
 refine wp_call [.agg (K14c5 b r_ g d j f k)] _ bp an rfl rfl (by decide) (by rfl) rfl (fun _ _ => by kernel_rfl) (control_Route_check_ok n an.has r_ ((rep_pair (rep_slice q) (rep_pair (rep_pair rep_int rep_int) (rep_pair (rep_slice u) (rep_pair (rep_slice x) (rep_pair rep_int (rep_pair rep_int (rep_pair rep_int rep_int))))))) : rep h r_ _) ex9) fun di ag dl bb au al => ?_
 replace q := q.mono au
 replace u := u.mono au
 replace x := x.mono au
 obtain rfl := bb
 refine ⟨.one (.c (.int .i64 x9)), rfl, fun cn (bq : Kn 23 [(a, 0), (l, 0)] ((tI 9 x9) :: (tA 8 (K14c5 b r_ g d j f k)) :: K14m7) cn) => hK _ _ ?_⟩
 refine R_runk 2 1 [4, 2, 1] ((tI 4 x9) :: K14m7) bq al.plOk (by kernel_rfl) fun da br => ?_
 refine wpFrom_end (by decide) (wp_seq (wp_region_from (R_runk 0 2 [11, 4, 2, 1] ((tB 11 (x9 != 0)) :: (tI 4 x9) :: K14m7) br al.plOk (by kernel_rfl) fun db aq => ?_)))
 refine wpFrom_end (by decide) (wp_cond_sv ((x9 != 0)) aq (by kernel_rfl) (fun ao => ?_) (fun ao => ?_))
 ·
  rw [ao, cond_true] at H
  refine wp_seq (wp_region_from (R_runk 0 2 [13, 12, 2] [(tI 13 x9), (tA 12 K14c1), (tP 2 1 0)] aq al.plOk (by kernel_rfl) fun dc bs => ?_))
  refine wpFrom_loud _ rfl (rfl) fun K hK => ?_
  refine wp_store 1 0 (.agg K14c1) K14c1 bs al rfl rfl (by rfl) (by rfl) (by rfl) (by kernel_rfl) (by kernel_rfl) (by rfl) fun cw bt (a5 : Mem ⟨w, h, noX⟩ ag [(a, 0), (l, 0)] [⟨(K14c5 b r_ g d j f k), some 43⟩, ⟨K14c1, some 34⟩] [] cw) => hK _ _ ?_
  refine R_runk 3 1 [3, 2] [(tI 3 x9), (tP 2 1 0)] bt a5.plOk (by kernel_rfl) fun dd bu => ?_
  refine wpFrom_end (by decide) (wp_ret ?_)
  obtain rfl := Option.some.inj H
  exact ret_ok (.tup [.agg K14c1, .c (.int .i64 x9)]) bu a5 (by kernel_rfl) ⟨_, _, rfl, ⟨_, rfl, ((rep_pair (rep_slice RepS.nil) (rep_pair (rep_slice RepS.nil) (rep_slice RepS.nil))) : rep ag ((Acts.mk ([] : List Int) ([] : List Int) ([] : List Bool)) : Acts) _)⟩, rfl⟩
 ·
  rw [ao, cond_false] at H
  refine wp_skip (wp_seq (wp_region_from (wpFrom_loud _ rfl (rfl) fun K hK => ?_)))
  refine wp_alloc K14c4 aq al rfl rfl (by decide) (by kernel_rfl) (by kernel_rfl) (by kernel_rfl) fun m a7 cx (bv : Kn 23 [(a, 0), (l, 0), (m, 0)] ((tP 5 2 0) :: (tB 11 (x9 != 0)) :: (tI 4 x9) :: K14m7) a7) (ca : Mem ⟨w, h, noX⟩ ag [(a, 0), (l, 0), (m, 0)] [⟨(K14c5 b r_ g d j f k), some 43⟩, ⟨K14c1, some 34⟩, ⟨K14c4, some 102⟩] [] cx) => hK _ _ ?_
  have bw : Kn 23 [(a, 0), (l, 0), (m, 0)] ((tP 5 2 0) :: K14m7) a7 := bv.keep [5, 2, 1] (by rfl)
  refine wpFrom_end (by decide) (wp_seq (wp_region_from (wpFrom_loud _ rfl (rfl) fun K hK => ?_)))
  refine wp_alloc [.int .i64 0, .int .i64 0] bw ca rfl rfl (by decide) (by kernel_rfl) (by kernel_rfl) (by kernel_rfl) fun o co cy (bx : Kn 23 [(a, 0), (l, 0), (m, 0), (o, 0)] ((tP 6 3 0) :: (tP 5 2 0) :: K14m7) co) (cb : Mem ⟨w, h, noX⟩ ag [(a, 0), (l, 0), (m, 0), (o, 0)] [⟨(K14c5 b r_ g d j f k), some 43⟩, ⟨K14c1, some 34⟩, ⟨K14c4, some 102⟩, ⟨[.int .i64 0, .int .i64 0], some 104⟩] [] cy) => hK _ _ ?_
  refine wpFrom_end (by decide) (wp_seq (wp_region_from (wpFrom_loud _ rfl (rfl) fun K hK => ?_)))
  refine wp_alloc [.bool false] bx cb rfl rfl (by decide) (by kernel_rfl) (by kernel_rfl) (by kernel_rfl) fun p cp cz (bz : Kn 23 (K14e2 a l m o p) ((tP 7 4 0) :: (tP 6 3 0) :: (tP 5 2 0) :: K14m7) cp) (cc : Mem ⟨w, h, noX⟩ ag (K14e2 a l m o p) [⟨(K14c5 b r_ g d j f k), some 43⟩, ⟨K14c1, some 34⟩, ⟨K14c4, some 102⟩, ⟨[.int .i64 0, .int .i64 0], some 104⟩, ⟨[.bool false], some 4⟩] [] cz) => hK _ _ ?_
  refine wpFrom_loud _ rfl (rfl) fun K hK => ?_
  refine wp_store 4 0 (.c (.bool false)) [.bool false] bz cc rfl rfl (by rfl) (by rfl) (by rfl) (by kernel_rfl) (by kernel_rfl) (by rfl) fun a9 b0 (a6 : Mem ⟨w, h, noX⟩ ag (K14e2 a l m o p) [⟨(K14c5 b r_ g d j f k), some 43⟩, ⟨K14c1, some 34⟩, ⟨K14c4, some 102⟩, ⟨[.int .i64 0, .int .i64 0], some 104⟩, ⟨[.bool false], some 4⟩] [] a9) => hK _ _ ?_
  refine wpFrom_end (by decide) (wp_seq (wp_region_from (R_runk 0 1 [14, 7, 6, 5, 2, 1] ((tA 14 (K14c5 b r_ g d j f k)) :: (tP 7 4 0) :: (tP 6 3 0) :: (tP 5 2 0) :: K14m7) b0 a6.plOk (by kernel_rfl) fun de b1 => ?_)))
  obtain ⟨ah, av, ay, aw⟩ := a6.settlePlc (i := 0) rfl
  replace q := q.mono av
  replace u := u.mono av
  replace x := x.mono av
  replace aw : Mem ⟨w, h, noX⟩ ah (K14e2 a l m o p) [⟨(K14c5 b r_ g d j f k), none⟩, ⟨K14c1, some 34⟩, ⟨K14c4, some 102⟩, ⟨[.int .i64 0, .int .i64 0], some 104⟩, ⟨[.bool false], some 4⟩] [] a9 := aw
  have aj : BoxS ah a (r_ : Route) := BoxS.of (e := (K14e2 a l m o p)) (cs := (K14c5 b r_ g d j f k)) ((rep_pair (rep_slice q) (rep_pair (rep_pair rep_int rep_int) (rep_pair (rep_slice u) (rep_pair (rep_slice x) (rep_pair rep_int (rep_pair rep_int (rep_pair rep_int rep_int))))))) : rep ah (r_ : Route) _) rfl ay
  have am : CellsAt ah a [.slice b r_.legs.length g, .int .i64 r_.turn.lo, .int .i64 r_.turn.hi, .slice d r_.buses.length j, .slice f r_.spares.length k, .int .i64 r_.unit, .int .i64 r_.gap, .int .i64 r_.fr, .int .i64 r_.to_] := CellsAt.of (e := [(a, 0), (l, 0), (m, 0), (o, 0), (p, 0)]) (cs := [.slice b r_.legs.length g, .int .i64 r_.turn.lo, .int .i64 r_.turn.hi, .slice d r_.buses.length j, .slice f r_.spares.length k, .int .i64 r_.unit, .int .i64 r_.gap, .int .i64 r_.fr, .int .i64 r_.to_]) rfl ay
  refine R_func 1 #[] #[.pointer (some ⟨p, 0, none⟩), .pointer (some ⟨o, 0, none⟩), .pointer (some ⟨a, 0, none⟩), .pointer (some ⟨m, 0, none⟩)] b1 rfl rfl (rfl) rfl (by decide) (by rfl) (by rfl) (by rfl) (by rfl) fun cq (b2 : Kn 23 (K14e2 a l m o p) ((15, .one (.c (.func (.func 52) #[] #[.pointer (some ⟨p, 0, none⟩), .pointer (some ⟨o, 0, none⟩), .pointer (some ⟨a, 0, none⟩), .pointer (some ⟨m, 0, none⟩)]))) :: (tA 14 (K14c5 b r_ g d j f k)) :: (tP 7 4 0) :: (tP 6 3 0) :: (tP 5 2 0) :: K14m7) cq) => ?_
  obtain ⟨x16, ex16, H⟩ := bnd H
  obtain ⟨c3, c4, b6, ci⟩ := aw.lend0 [4, 3, 2] [] (by kernel_rfl) (by kernel_rfl) (by kernel_rfl) (by kernel_rfl)
  obtain ⟨c1, b7, bc, bf⟩ := control_Best_1_start (false, (Cost.mk 0 0), (Deeds.mk (A4int.mk 0 0 0 0) (A4int.mk 0 0 0 0) (A2bool.mk false false))) b6
  refine wpFrom_loud _ rfl (rfl) fun K hK => ?_
  refine wp_callM [.agg (K14c5 b r_ g d j f k), .c (.func (.func 52) #[] #[.pointer (some ⟨p, 0, none⟩), .pointer (some ⟨o, 0, none⟩), .pointer (some ⟨a, 0, none⟩), .pointer (some ⟨m, 0, none⟩)])] _ b2 rfl rfl (by decide) (by rfl) rfl (fun _ _ => by kernel_rfl) (control_Route_every_ok n control_Best_1_SOk (fun s y0 y1 => control_Best_1 n y0 y1 s.1 s.2.1 s.2.2 r_) (control_Best_1_see n r_ aj) r_ ((rep_pair (rep_slice q) (rep_pair (rep_pair rep_int rep_int) (rep_pair (rep_slice u) (rep_pair (rep_slice x) (rep_pair rep_int (rep_pair rep_int (rep_pair rep_int rep_int))))))) : rep ah r_ _) (false, (Cost.mk 0 0), (Deeds.mk (A4int.mk 0 0 0 0) (A4int.mk 0 0 0 0) (A2bool.mk false false))) bc b7 ex16) fun dj c0 bd => ?_
  obtain ⟨rfl, ai, c2, af, cj, be, cd⟩ := bd
  obtain ⟨ce, _⟩ := bf _ _ _ _ af cj be cd
  have ae := ci _ _ _ [] af rfl (Nat.le_refl _) (by kernel_rfl) ce
  replace q := q.mono af
  replace u := u.mono af
  replace x := x.mono af
  replace aj := aj.mono af
  replace am := am.mono af
  replace ae : Mem ⟨w, h, noX⟩ ai (K14e2 a l m o p) [⟨(K14c5 b r_ g d j f k), none⟩, ⟨K14c1, some 34⟩, ⟨(K14c6 x16), some 102⟩, ⟨[.int .i64 x16.2.1.number, .int .i64 x16.2.1.sum], some 104⟩, ⟨[.bool x16.1], some 4⟩] [] c0 := ae
  refine ⟨.tup [], rfl, fun a8 (b3 : Kn 23 (K14e2 a l m o p) ((16, .tup []) :: (15, .one (.c (.func (.func 52) #[] #[.pointer (some ⟨p, 0, none⟩), .pointer (some ⟨o, 0, none⟩), .pointer (some ⟨a, 0, none⟩), .pointer (some ⟨m, 0, none⟩)]))) :: (tA 14 (K14c5 b r_ g d j f k)) :: (tP 7 4 0) :: (tP 6 3 0) :: (tP 5 2 0) :: K14m7) a8) => hK _ _ ?_⟩
  have b4 : Kn 23 (K14e2 a l m o p) ((tP 7 4 0) :: (tP 5 2 0) :: K14m7) a8 := b3.keep [7, 5, 2, 1] (by rfl)
  refine wpFrom_end (by decide) (wp_seq (wp_seq (wp_region_from (R_runk 0 2 [18, 5, 2, 1] ((tB 18 (!x16.1)) :: (tP 5 2 0) :: K14m7) b4 ae.plOk (by kernel_rfl) fun df ar => ?_))))
  refine wpFrom_end (by decide) (wp_cond_sv ((!x16.1)) ar (by kernel_rfl) (fun ap => ?_) (fun ap => ?_))
  ·
   rw [ap, cond_true] at H
   refine wp_seq (wp_region_from (R_runk 0 1 [19, 2] [(tA 19 K14c1), (tP 2 1 0)] ar ae.plOk (by kernel_rfl) fun dg b5 => ?_))
   refine wpFrom_loud _ rfl (rfl) fun K hK => ?_
   refine wp_store 1 0 (.agg K14c1) K14c1 b5 ae rfl rfl (by rfl) (by rfl) (by rfl) (by kernel_rfl) (by kernel_rfl) (by rfl) fun cr bg (az : Mem ⟨w, h, noX⟩ ai (K14e2 a l m o p) [⟨(K14c5 b r_ g d j f k), none⟩, ⟨K14c1, some 34⟩, ⟨(K14c6 x16), some 102⟩, ⟨[.int .i64 x16.2.1.number, .int .i64 x16.2.1.sum], some 104⟩, ⟨[.bool x16.1], some 4⟩] [] cr) => hK _ _ ?_
   refine R_runk 2 1 [3, 2] [(tI 3 9), (tP 2 1 0)] bg az.plOk (by kernel_rfl) fun c5 bh => ?_
   refine wpFrom_end (by decide) (wp_ret ?_)
   obtain rfl := Option.some.inj H
   exact ret_ok (.tup [.agg K14c1, .c (.int .i64 9)]) bh az (by kernel_rfl) ⟨_, _, rfl, ⟨_, rfl, ((rep_pair (rep_slice RepS.nil) (rep_pair (rep_slice RepS.nil) (rep_slice RepS.nil))) : rep ai ((Acts.mk ([] : List Int) ([] : List Int) ([] : List Bool)) : Acts) _)⟩, rfl⟩
  ·
   rw [ap, cond_false] at H
   refine wp_skip (wp_seq (wp_region_from (R_runk 0 2 [21, 20, 2] [(tA 21 (K14c5 b r_ g d j f k)), (tA 20 (K14c6 x16)), (tP 2 1 0)] ar ae.plOk (by kernel_rfl) fun c6 bi => ?_)))
   obtain ⟨x22, ex22, H⟩ := bnd H
   refine wpFrom_loud _ rfl (rfl) fun K hK => ?_
   refine wp_call [.agg (K14c6 x16), .agg (K14c5 b r_ g d j f k)] _ bi ae rfl rfl (by decide) (by rfl) rfl (fun _ _ => by kernel_rfl) (control_deeds_acts_ok n ae.has x16.2.2 ((rep_pair (rep_pair rep_int (rep_pair rep_int (rep_pair rep_int rep_int))) (rep_pair (rep_pair rep_int (rep_pair rep_int (rep_pair rep_int rep_int))) (rep_pair rep_bool rep_bool))) : rep ai x16.2.2 _) r_ ((rep_pair (rep_slice q) (rep_pair (rep_pair rep_int rep_int) (rep_pair (rep_slice u) (rep_pair (rep_slice x) (rep_pair rep_int (rep_pair rep_int (rep_pair rep_int rep_int))))))) : rep ai r_ _) ex22) fun dh ax dk ba ak b8 => ?_
   replace q := q.mono ak
   replace u := u.mono ak
   replace x := x.mono ak
   replace aj := aj.mono ak
   replace am := am.mono ak
   obtain ⟨_, rfl, ⟨_, _, rfl, ⟨y, ab, rfl, cf⟩, ⟨_, _, rfl, ⟨z, ac, rfl, cg⟩, ⟨aa, ad, rfl, ch⟩⟩⟩⟩ := ba
   refine ⟨.one (.agg (K14c3 y x22 ab z ac aa ad)), rfl, fun cl (bj : Kn 23 (K14e2 a l m o p) [(tA 22 (K14c3 y x22 ab z ac aa ad)), (tA 21 (K14c5 b r_ g d j f k)), (tA 20 (K14c6 x16)), (tP 2 1 0)] cl) => hK _ _ ?_⟩
   refine wpFrom_loud _ rfl (rfl) fun K hK => ?_
   refine wp_store 1 0 (.agg (K14c3 y x22 ab z ac aa ad)) (K14c3 y x22 ab z ac aa ad) bj b8 rfl rfl (by rfl) (by rfl) (by rfl) (by kernel_rfl) (by kernel_rfl) (by rfl) fun cu bk (a4 : Mem ⟨w, h, noX⟩ ax (K14e2 a l m o p) [⟨(K14c5 b r_ g d j f k), none⟩, ⟨(K14c3 y x22 ab z ac aa ad), some 34⟩, ⟨(K14c6 x16), some 102⟩, ⟨[.int .i64 x16.2.1.number, .int .i64 x16.2.1.sum], some 104⟩, ⟨[.bool x16.1], some 4⟩] [] cu) => hK _ _ ?_
   refine R_runk 4 1 [3, 2] [(tI 3 0), (tP 2 1 0)] bk a4.plOk (by kernel_rfl) fun c7 bl => ?_
   refine wpFrom_end (by decide) (wp_ret ?_)
   obtain rfl := Option.some.inj H
   exact ret_ok (.tup [.agg (K14c3 y x22 ab z ac aa ad), .c (.int .i64 0)]) bl a4 (by kernel_rfl) ⟨_, _, rfl, ⟨_, rfl, ((rep_pair (rep_slice cf) (rep_pair (rep_slice cg) (rep_slice ch))) : rep ax (x22 : Acts) _)⟩, rfl⟩
end Go.Proofs.Ytokchpjijlebiaa
