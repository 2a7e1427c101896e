/- Each call computes its plain function: printed by dec.py. -/
import Derived.Test.YtokchpjijlebiaaProg
import Derived.Test.YtokchpjijlebiaaPure
import Derived.Test.YtokchpjijlebiaaWalkA
set_option linter.all false
namespace Go.Proofs.Ytokchpjijlebiaa
open Go Go.RowKit
open Rep (rep)
open KRep (kv)
open VRep (rv)
abbrev K15c1 (x31 : Rg) : List SC := [.int .i64 x31.lo, .int .i64 x31.hi]
abbrev K15c2 (x75 : Spare) : List SC := [.int .i64 x75.stop, .int .i64 x75.tm]
abbrev K15c3 (r_ : Route) : List SC := [.int .i64 r_.turn.lo, .int .i64 r_.turn.hi]
abbrev K15c4 (x49 : Bus) : List SC := [.int .i64 x49.stop, .int .i64 x49.tm.lo, .int .i64 x49.tm.hi]
abbrev K15c5 (x55 : Bus) : List SC := [.int .i64 x55.stop, .int .i64 x55.tm.lo, .int .i64 x55.tm.hi]
abbrev K15e6 (a b d ay a1 : Nat) (x_v11 : Int) : Env := [(a, 0), (b, 0), (d, 0), (ay, a1 + (x_v11 : Int).toNat * 2)]
abbrev K15e7 (a b d ao ar : Nat) (x_v21 : Int) (ax a0 : Nat) : Env := [(a, 0), (b, 0), (d, 0), (ao, ar + (x_v21 : Int).toNat * 3), (ax, a0 + (x_v21 : Int).toNat * 3)]
abbrev K15e8 (a b d au aw : Nat) (x_v31 : Int) (a4 a5 : Nat) : Env := [(a, 0), (b, 0), (d, 0), (au, aw + (x_v31 : Int).toNat * 2), (a4, a5 + (x_v31 : Int).toNat * 2)]
abbrev K15c9 : List SC := [.slice none 0 0, .int .i64 0, .int .i64 0, .slice none 0 0, .slice none 0 0, .int .i64 0, .int .i64 0, .int .i64 0, .int .i64 0]
abbrev K15c10 (x9 : Rg) (r_ : Route) : List SC := [.slice none 0 0, .int .i64 x9.lo, .int .i64 x9.hi, .slice none 0 0, .slice none 0 0, .int .i64 r_.unit, .int .i64 r_.gap, .int .i64 r_.fr, .int .i64 r_.to_]
abbrev K15c11 (aj : Option Addr) (x_v10 : List Rg) (ak : Nat) (x9 : Rg) (r_ : Route) : List SC := [.slice aj x_v10.length ak, .int .i64 x9.lo, .int .i64 x9.hi, .slice none 0 0, .slice none 0 0, .int .i64 r_.unit, .int .i64 r_.gap, .int .i64 r_.fr, .int .i64 r_.to_]
abbrev K15c12 (f : Option Addr) (e : List Rg) (g : Nat) (x9 : Rg) (ad : Option Addr) (x_v20 : List Bus) (ae : Nat) (r_ : Route) : List SC := [.slice f e.length g, .int .i64 x9.lo, .int .i64 x9.hi, .slice ad x_v20.length ae, .slice none 0 0, .int .i64 r_.unit, .int .i64 r_.gap, .int .i64 r_.fr, .int .i64 r_.to_]
abbrev K15c13 (f : Option Addr) (e : List Rg) (g : Nat) (x9 : Rg) (u : Option Addr) (s : List Bus) (x : Nat) (af : Option Addr) (ac : List Spare) (ag : Nat) (r_ : Route) : List SC := [.slice f e.length g, .int .i64 x9.lo, .int .i64 x9.hi, .slice u s.length x, .slice af ac.length ag, .int .i64 r_.unit, .int .i64 r_.gap, .int .i64 r_.fr, .int .i64 r_.to_]
abbrev K15c14 (f : Option Addr) (e : List Rg) (g : Nat) (x9 : Rg) (u : Option Addr) (s : List Bus) (x : Nat) (ah : Option Addr) (x_v30 : List Spare) (ai : Nat) (r_ : Route) : List SC := [.slice f e.length g, .int .i64 x9.lo, .int .i64 x9.hi, .slice u s.length x, .slice ah x_v30.length ai, .int .i64 r_.unit, .int .i64 r_.gap, .int .i64 r_.fr, .int .i64 r_.to_]
abbrev K15c15 (p : Option Addr) (r_ : Route) (q : Nat) (k : Option Addr) (m : Nat) (l : Option Addr) (o : Nat) : List SC := [.slice p r_.legs.length q, .int .i64 r_.turn.lo, .int .i64 r_.turn.hi, .slice k r_.buses.length m, .slice l r_.spares.length o, .int .i64 r_.unit, .int .i64 r_.gap, .int .i64 r_.fr, .int .i64 r_.to_]
abbrev K15p16 (p : Option Addr) (r_ : Route) (q : Nat) (k : Option Addr) (m : Nat) (l : Option Addr) (o : Nat) : List Plc := [⟨(K15c15 p r_ q k m l o), some 28⟩, ⟨K15c9, some 43⟩, ⟨K15c9, some 43⟩]
abbrev K15m17 : TM := [(tP 3 2 0), (tP 2 1 0), (tP 1 0 0)]
abbrev K15m18 (r_ : Route) : TM := [(tI 17 r_.to_), (tI 15 r_.fr), (tI 13 r_.gap), (tI 11 r_.unit), (tA 8 (K15c3 r_)), (tP 2 1 0), (tP 1 0 0)]
set_option maxRecDepth 100000 in
set_option maxHeartbeats 4000000 in
theorem law_Route_ok (n : Nat) {h : Heap} {w : World} (hh : Has h w) (r_ : Route) {cs_r_ : List Value} (hx_r_ : rep h r_ cs_r_) {r : Route} (H : law_Route n r_ = some r) :
  Calls Try.prog 15 #[.agg cs_r_.toArray] w (Ret (fun h v => ∃ cs, v = .agg cs.toArray ∧ rep h r cs) h w) := by
 obtain ⟨_, _, rfl, ⟨p, q, rfl, aa⟩, ⟨_, _, rfl, ⟨_, _, rfl, rfl, rfl⟩, ⟨_, _, rfl, ⟨k, m, rfl, y⟩, ⟨_, _, rfl, ⟨l, o, rfl, z⟩, ⟨_, _, rfl, rfl, ⟨_, _, rfl, rfl, ⟨_, _, rfl, rfl, rfl⟩⟩⟩⟩⟩⟩⟩ := hx_r_
 refine enter 89 [.agg (K15c15 p r_ q k m l o)] Try.func15 rfl rfl rfl rfl fun t hk => ?_
 have hm := Mem.begin h w hh
 unfold law_Route at H
 refine wp_seq (wp_region_from (wpFrom_loud _ rfl (rfl) fun K hK => ?_))
 refine wp_box (.agg (K15c15 p r_ q k m l o)) hk hm rfl rfl (by decide) (by kernel_rfl) (by kernel_rfl) (by kernel_rfl) fun a hx im (e8 : Kn 89 [(a, 0)] [(tP 1 0 0), (tA 0 (K15c15 p r_ q k m l o))] hx) (gu : Mem ⟨w, h, noX⟩ h [(a, 0)] [⟨(K15c15 p r_ q k m l o), some 28⟩] [] im) => hK _ _ ?_
 refine wpFrom_loud _ rfl (rfl) fun K hK => ?_
 refine wp_alloc K15c9 e8 gu rfl rfl (by decide) (by kernel_rfl) (by kernel_rfl) (by kernel_rfl) fun b d8 io (ff : Kn 89 [(a, 0), (b, 0)] [(tP 2 1 0), (tP 1 0 0), (tA 0 (K15c15 p r_ q k m l o))] d8) (bv : Mem ⟨w, h, noX⟩ h [(a, 0), (b, 0)] [⟨(K15c15 p r_ q k m l o), some 28⟩, ⟨K15c9, some 43⟩] [] io) => hK _ _ ?_
 have fj : Kn 89 [(a, 0), (b, 0)] [(tP 2 1 0), (tP 1 0 0)] d8 := ff.keep [2, 1] (by rfl)
 refine wpFrom_end (by decide) (wp_seq (wp_region_G (by kernel_rfl) ?_))
 replace bv := bv.drew
 refine wpG_of_D [] [(a, 0), (b, 0)] [⟨(K15c15 p r_ q k m l o), some 28⟩, ⟨K15c9, some 43⟩] ?_
 refine D_run [0, 1, 3, 4, 5, 6, 7, 8, 9, 10] [10, 9, 8, 7, 6, 5, 4, 3, 1, 0] [17, 15, 13, 11, 8, 2, 1] (K15m18 r_) (fun _ _ _ _ _ h => h) fj bv.plOk (by kernel_rfl) (by rfl) (by kernel_rfl) fun jf dv => ?_
 obtain ⟨x9, ex9, H⟩ := bnd H
 refine D_share (fun W => ∀ (d : Nat), ∀ a' w', (∃ (cg : Array Value) (be : Heap), a' = ⟨cg, []⟩ ∧ Kn 89 [(a, 0), (b, 0), (d, 0)] [(tP 3 2 0), (tA 18 (K15c10 x9 r_)), (tP 2 1 0), (tP 1 0 0)] cg ∧ Mem ⟨w, h, noX⟩ be [(a, 0), (b, 0), (d, 0)] (K15p16 p r_ q k m l o) [] w' ∧ Heap.le h be) → W [(a, 0), (b, 0), (d, 0)] (K15p16 p r_ q k m l o) [11, 2, 12, 10, 9, 8, 7, 6, 5, 4, 3, 1, 0] a' w') ?_ (fun d7 => ?_)
 ·
  intro d
  rintro _ jy ⟨cg, be, rfl, fz, gw, cu⟩
  replace aa := aa.mono cu
  replace y := y.mono cu
  replace z := z.mono cu
  refine D_sync 13 rfl (by kernel_rfl) (by decide) (rfl) (by kernel_rfl) fun K hK => ?_
  refine wp_store 2 0 (.agg (K15c10 x9 r_)) (K15c10 x9 r_) fz gw rfl rfl (by rfl) (by rfl) (by rfl) (by kernel_rfl) (by kernel_rfl) (by rfl) fun eb f9 (d4 : Mem ⟨w, h, noX⟩ be [(a, 0), (b, 0), (d, 0)] [⟨(K15c15 p r_ q k m l o), some 28⟩, ⟨K15c9, some 43⟩, ⟨(K15c10 x9 r_), some 43⟩] [] eb) => hK _ _ ?_
  refine wpG_of_D [] [(a, 0), (b, 0), (d, 0)] [⟨(K15c15 p r_ q k m l o), some 28⟩, ⟨K15c9, some 43⟩, ⟨(K15c10 x9 r_), some 43⟩] ?_
  have gc : Kn 89 [(a, 0), (b, 0), (d, 0)] K15m17 cg := f9.keep [3, 2, 1] (by rfl)
  refine wpD_end (by kernel_rfl) (wp_seq (wp_seq (wp_region_from (R_runk 0 1 [4, 3, 2, 1] ((tI 4 0) :: K15m17) gc d4.plOk (by kernel_rfl) fun jo gi => ?_))))
  refine wpFrom_end (by decide) ?_
  have gx : Mem ⟨w, h, noX⟩ be [(a, 0), (b, 0), (d, 0)] [⟨(K15c15 p r_ q k m l o), some 28⟩, ⟨K15c9, some 43⟩, ⟨(K15c10 x9 r_), some 43⟩] [⟨none, 0, 0, 39, 2, [], 0⟩] eb := d4.nilRow 39 2
  have ew : Cells be ([] : List Rg) [] := Cells.nil
  obtain ⟨e, dn, H⟩ := bnd H
  refine wp_mid' (fun a' w' => ∃ (f : Option Addr) (g : Nat) (ab : List Value) (dj : Array Value) (bf : Heap), a' = ⟨dj, []⟩ ∧ Kn 89 [(a, 0), (b, 0), (d, 0)] K15m17 dj ∧ Mem ⟨w, h, noX⟩ bf [(a, 0), (b, 0), (d, 0)] [⟨(K15c15 p r_ q k m l o), some 28⟩, ⟨K15c9, some 43⟩, ⟨[.slice f e.length g, .int .i64 x9.lo, .int .i64 x9.hi, .slice none 0 0, .slice none 0 0, .int .i64 r_.unit, .int .i64 r_.gap, .int .i64 r_.fr, .int .i64 r_.to_], some 43⟩] [⟨f, e.length, g, 39, 2, ab, 0⟩] w' ∧ Heap.le be bf ∧ Cells bf e ab) ?_ ?_
  ·
   refine wp_block ?_
   refine wp_loop_n (fun hu a' w' => ∃ (x_v10 : List Rg) (x_v11 : Int) (aj : Option Addr) (ak : Nat) (a6 : List Value) (dk : Array Value) (bq : Heap), a' = ⟨dk, []⟩ ∧ Kn 89 [(a, 0), (b, 0), (d, 0)] ((tI 4 x_v11) :: K15m17) dk ∧ Mem ⟨w, h, noX⟩ bq [(a, 0), (b, 0), (d, 0)] [⟨(K15c15 p r_ q k m l o), some 28⟩, ⟨K15c9, some 43⟩, ⟨(K15c11 aj x_v10 ak x9 r_), some 43⟩] [⟨aj, x_v10.length, ak, 39, 2, a6, 0⟩] w' ∧ Heap.le be bq ∧ Cells bq x_v10 a6 ∧ law_Route_l1 hu r_ x_v10 x_v11 = some e) n ?_ ?_
   ·
    exact Exists.intro ([] : List Rg) ⟨0, none, 0, ([]), _, _, rfl, (gi.keep [4, 3, 2, 1] (by rfl)), gx, (Heap.le_refl _), ew, dn⟩
   ·
    rintro cf _ i0 ⟨x_v10, x_v11, aj, ak, a6, dk, bq, rfl, gj, bo, b3, b8, aq⟩
    clear dn
    obtain _ | cf := cf
    ·
     rw [law_Route_l1] at aq; cases aq
    rw [law_Route_l1] at aq
    replace aa := aa.mono b3
    replace y := y.mono b3
    replace z := z.mono b3
    refine wp_seq (wp_seq (wp_region_from (R_runk 0 5 [23, 4, 3, 2, 1] ((tB 23 (decide (x_v11 < ((r_.legs.length : Nat) : Int)))) :: (tI 4 x_v11) :: K15m17) gj bo.plOk (by kernel_rfl) fun jq cr => ?_)))
    refine wpFrom_end (by decide) (wp_cond_sv (decide (x_v11 < ((r_.legs.length : Nat) : Int))) cr (by kernel_rfl) (fun cl => ?_) (fun cl => ?_))
    ·
     rw [cl, cond_true] at aq
     refine wp_skip (wp_seq (wp_block (wp_region_G (by kernel_rfl) ?_)))
     replace bo := bo.drew
     refine wpG_of_D [] [(a, 0), (b, 0), (d, 0)] [⟨(K15c15 p r_ q k m l o), some 28⟩, ⟨K15c9, some 43⟩, ⟨(K15c11 aj x_v10 ak x9 r_), some 43⟩] ?_
     refine D_run [0, 1, 2, 3, 4] [4, 3, 2, 1, 0] [30, 29, 27, 4, 3, 2, 1] ((tI 30 x_v11) :: (tS 29 p r_.legs.length q) :: (tS 27 aj x_v10.length ak) :: (tI 4 x_v11) :: K15m17) (fun _ _ _ _ _ h => h) cr bo.plOk (by kernel_rfl) (by rfl) (by kernel_rfl) fun jr gk => ?_
     obtain ⟨x31, ex31, aq⟩ := bnd aq
     obtain ⟨g2, g7, hr⟩ := idx_some ex31
     obtain ⟨ay, a1, i6, el, hg, ex⟩ := aa.get (by decide) hr
     obtain ⟨_, _, rfl, rfl, rfl⟩ := hg
     have c8 : Mem ⟨w, h, noX⟩ bq (K15e6 a b d ay a1 x_v11) [⟨(K15c15 p r_ q k m l o), some 28⟩, ⟨K15c9, some 43⟩, ⟨(K15c11 aj x_v10 ak x9 r_), some 43⟩, ⟨(K15c1 x31), none⟩] [⟨aj, x_v10.length, ak, 39, 2, a6, 0⟩] (World.drew i0) := bo.addPlc (cs := (K15c1 x31)) (fun j c hj => ex j _ (map_get hj)) rfl (by kernel_rfl) (by kernel_rfl)
     refine D_index 5 (x_v11) (K15c1 x31) (fun _ _ _ _ _ h => h) rfl rfl (rfl) rfl (by decide) (by kernel_rfl) (by kernel_rfl) gk bo.plOk (by rfl) (by rfl) (by rfl) el (by rfl) g2 g7 (by kernel_rfl) fun ig (gl : Kn 89 (K15e6 a b d ay a1 x_v11) ((tP 31 3 0) :: (tI 30 x_v11) :: (tS 29 p r_.legs.length q) :: (tS 27 aj x_v10.length ak) :: (tI 4 x_v11) :: K15m17) ig) => ?_
     refine D_run [6] [6, 5, 4, 3, 2, 1, 0] [32, 27, 4, 3, 2, 1] ((tA 32 (K15c1 x31)) :: (tS 27 aj x_v10.length ak) :: (tI 4 x_v11) :: K15m17) (fun _ _ _ _ _ h => h) gl c8.plOk (by kernel_rfl) (by rfl) (by kernel_rfl) fun js gm => ?_
     obtain ⟨x33, ex33, aq⟩ := bnd aq
     refine D_loud 7 rfl (by kernel_rfl) (by decide) (rfl) fun K hK => ?_
     refine wp_call [.agg (K15c1 x31)] _ gm c8 rfl rfl (by decide) (by rfl) rfl (fun _ _ => by kernel_rfl) (law_to_ok cf c8.has x31 ((rep_pair rep_int rep_int) : rep bq x31 _) ex33) fun jw br j2 ef b4 d6 => ?_
     replace aa := aa.mono b4
     replace y := y.mono b4
     replace z := z.mono b4
     replace b8 := b8.mono b4
     obtain ⟨_, rfl, ⟨_, _, rfl, rfl, rfl⟩⟩ := ef
     refine ⟨.one (.agg [.int .i64 x33.lo, .int .i64 x33.hi]), rfl, fun ih (gn : Kn 89 (K15e6 a b d ay a1 x_v11) ((tA 33 [.int .i64 x33.lo, .int .i64 x33.hi]) :: (tA 32 (K15c1 x31)) :: (tS 27 aj x_v10.length ak) :: (tI 4 x_v11) :: K15m17) ih) => hK _ _ d6.plOk ?_⟩
     refine D_loud 8 rfl (by kernel_rfl) (by decide) (rfl) fun K hK => ?_
     refine wp_buildSlice 39 2 [.int .i64 x33.lo, .int .i64 x33.hi] gn d6 rfl rfl (by decide) (by kernel_rfl) (by rfl) (by rfl) rfl (by decide) fun bz ii i1 (go : Kn 89 (K15e6 a b d ay a1 x_v11) ((tS 34 bz 1 1) :: (tA 33 [.int .i64 x33.lo, .int .i64 x33.hi]) :: (tA 32 (K15c1 x31)) :: (tS 27 aj x_v10.length ak) :: (tI 4 x_v11) :: K15m17) ii) (c9 : Mem ⟨w, h, noX⟩ br (K15e6 a b d ay a1 x_v11) [⟨(K15c15 p r_ q k m l o), some 28⟩, ⟨K15c9, some 43⟩, ⟨(K15c11 aj x_v10 ak x9 r_), some 43⟩, ⟨(K15c1 x31), none⟩] [⟨aj, x_v10.length, ak, 39, 2, a6, 0⟩, ⟨bz, 1, 1, 39, 2, ([.int .i64 x33.lo, .int .i64 x33.hi] : List Value), 0⟩] i1) => ?_
     have co : Cells br ([x33] : List Rg) ([.int .i64 x33.lo, .int .i64 x33.hi] : List Value) := ⟨_, _, rfl, ((rep_pair rep_int rep_int) : rep br (x33 : Rg) _), rfl⟩
     refine hK _ _ c9.plOk ?_
     obtain ⟨x35, ex35, aq⟩ := bnd aq
     obtain ⟨dd, gr⟩ := app_some ex35
     refine D_loud 9 rfl (by kernel_rfl) (by decide) (rfl) fun K hK => ?_
     refine wp_append 0 16 1 _ (x35.length) _ ([.int .i64 x33.lo, .int .i64 x33.hi] : List Value) go c9 rfl rfl (by decide) rfl (by rfl) (by kernel_rfl) (by rfl) (by rfl) (Cells.len co) (c9.rowCell (i := 1) rfl) co.one (by rw [dd]; simp) (by rw [dd]; exact gr) (by decide) fun a9 bc dr hv ij ey (e1 : Kn 89 [(a, 0), (b, 0), (d, 0), (ay, a1 + (x_v11 : Int).toNat * 2)] [(35, .one (.c (.slice a9 x35.length bc))), (34, .one (.c (.slice bz 1 1))), (33, .one (.agg [.int .i64 x33.lo, .int .i64 x33.hi])), (32, .one (.agg [.int .i64 x31.lo, .int .i64 x31.hi])), (27, .one (.c (.slice aj x_v10.length ak))), (4, .one (.c (.int .i64 x_v11))), (3, .one (.c (.ptr 2 0))), (2, .one (.c (.ptr 1 0))), (1, .one (.c (.ptr 0 0)))] hv) (cv : Mem ⟨w, h, noX⟩ br [(a, 0), (b, 0), (d, 0), (ay, a1 + (x_v11 : Int).toNat * 2)] [⟨[.slice p r_.legs.length q, .int .i64 r_.turn.lo, .int .i64 r_.turn.hi, .slice k r_.buses.length m, .slice l r_.spares.length o, .int .i64 r_.unit, .int .i64 r_.gap, .int .i64 r_.fr, .int .i64 r_.to_], some 28⟩, ⟨[.slice none 0 0, .int .i64 0, .int .i64 0, .slice none 0 0, .slice none 0 0, .int .i64 0, .int .i64 0, .int .i64 0, .int .i64 0], some 43⟩, ⟨[.slice aj x_v10.length ak, .int .i64 x9.lo, .int .i64 x9.hi, .slice none 0 0, .slice none 0 0, .int .i64 r_.unit, .int .i64 r_.gap, .int .i64 r_.fr, .int .i64 r_.to_], some 43⟩, ⟨[.int .i64 x31.lo, .int .i64 x31.hi], none⟩] [⟨a9, x35.length, bc, 39, 2, (a6 ++ ([.int .i64 x33.lo, .int .i64 x33.hi] : List Value)), dr⟩, ⟨bz, 1, 1, 39, 2, ([.int .i64 x33.lo, .int .i64 x33.hi] : List Value), 0⟩] ij) => ?_
     have em : Cells br x35 (a6 ++ ([.int .i64 x33.lo, .int .i64 x33.hi] : List Value)) := by rw [dd]; exact Cells.append b8 co
     obtain rfl : dr = 0 := Nat.le_zero.1 ey
     refine hK _ _ cv.plOk ?_
     refine D_run [10] [10, 9, 8, 7, 6, 5, 4, 3, 2, 1, 0] [36, 35, 4, 3, 2, 1] ((tP 36 2 0) :: (tS 35 a9 x35.length bc) :: (tI 4 x_v11) :: K15m17) (fun _ _ _ _ _ h => h) e1 cv.plOk (by kernel_rfl) (by rfl) (by kernel_rfl) fun hw e2 => ?_
     refine D_sync 11 rfl (by kernel_rfl) (by decide) (rfl) (by kernel_rfl) fun K hK => ?_
     refine wp_store 2 0 (.c (.slice a9 x35.length bc)) [.slice a9 x35.length bc, .int .i64 x9.lo, .int .i64 x9.hi, .slice none 0 0, .slice none 0 0, .int .i64 r_.unit, .int .i64 r_.gap, .int .i64 r_.fr, .int .i64 r_.to_] e2 cv rfl rfl (by rfl) (by rfl) (by rfl) (by kernel_rfl) (by kernel_rfl) (by rfl) fun ik e3 (dw : Mem ⟨w, h, noX⟩ br (K15e6 a b d ay a1 x_v11) [⟨(K15c15 p r_ q k m l o), some 28⟩, ⟨K15c9, some 43⟩, ⟨[.slice a9 x35.length bc, .int .i64 x9.lo, .int .i64 x9.hi, .slice none 0 0, .slice none 0 0, .int .i64 r_.unit, .int .i64 r_.gap, .int .i64 r_.fr, .int .i64 r_.to_], some 43⟩, ⟨(K15c1 x31), none⟩] [⟨a9, x35.length, bc, 39, 2, (a6 ++ ([.int .i64 x33.lo, .int .i64 x33.hi] : List Value)), 0⟩, ⟨bz, 1, 1, 39, 2, ([.int .i64 x33.lo, .int .i64 x33.hi] : List Value), 0⟩] ik) => hK _ _ ?_
     have e4 : Kn 89 (K15e6 a b d ay a1 x_v11) ((tI 4 x_v11) :: K15m17) hw := e3.keep [4, 3, 2, 1] (by rfl)
     refine wpG_end (by kernel_rfl) (wp_region_from (R_runk 0 3 [4, 3, 2, 1] ((tI 4 (IntKind.i64.wrap (x_v11 + 1))) :: K15m17) e4 dw.plOk (by kernel_rfl) fun i8 e5 => ?_))
     refine wpFrom_end (by decide) ?_
     exact Exists.intro cf ⟨Nat.lt_succ_self _, Exists.intro x35 ⟨(IntKind.i64.wrap (x_v11 + 1)), a9, bc, (a6 ++ ([.int .i64 x33.lo, .int .i64 x33.hi] : List Value)), _, _, rfl, ((e5.keep [4, 3, 2, 1] (by rfl)).cut 3 (by kernel_rfl)), ((dw.cutRw 1).cutPl 3 (by kernel_rfl)), (Heap.le_trans b3 b4), em, aq⟩⟩
    ·
     rw [cl, cond_false] at aq
     refine wp_exit ?_
     obtain rfl := Option.some.inj aq
     exact Exists.intro aj ⟨ak, a6, _, _, rfl, (cr.keep [3, 2, 1] (by rfl)), bo, b3, b8⟩
  ·
   rintro _ il ⟨f, g, ab, dj, bf, rfl, e6, dx, ct, al⟩
   replace aa := aa.mono ct
   replace y := y.mono ct
   replace z := z.mono ct
   refine wp_seq (wp_seq (wp_region_from (R_runk 0 1 [5, 3, 2, 1] ((tI 5 0) :: K15m17) e6 dx.plOk (by kernel_rfl) fun i9 e7 => ?_)))
   refine wpFrom_end (by decide) ?_
   have gs : Mem ⟨w, h, noX⟩ bf [(a, 0), (b, 0), (d, 0)] [⟨(K15c15 p r_ q k m l o), some 28⟩, ⟨K15c9, some 43⟩, ⟨[.slice f e.length g, .int .i64 x9.lo, .int .i64 x9.hi, .slice none 0 0, .slice none 0 0, .int .i64 r_.unit, .int .i64 r_.gap, .int .i64 r_.fr, .int .i64 r_.to_], some 43⟩] [⟨f, e.length, g, 39, 2, ab, 0⟩, ⟨none, 0, 0, 96, 3, [], 0⟩] il := dx.nilRow 96 3
   have en : Cells bf ([] : List Bus) [] := Cells.nil
   obtain ⟨s, dl, H⟩ := bnd H
   refine wp_mid' (fun a' w' => ∃ (u : Option Addr) (x : Nat) (am : List Value) (df : Array Value) (bd : Heap), a' = ⟨df, []⟩ ∧ Kn 89 [(a, 0), (b, 0), (d, 0)] K15m17 df ∧ Mem ⟨w, h, noX⟩ bd [(a, 0), (b, 0), (d, 0)] [⟨(K15c15 p r_ q k m l o), some 28⟩, ⟨K15c9, some 43⟩, ⟨[.slice f e.length g, .int .i64 x9.lo, .int .i64 x9.hi, .slice u s.length x, .slice none 0 0, .int .i64 r_.unit, .int .i64 r_.gap, .int .i64 r_.fr, .int .i64 r_.to_], some 43⟩] [⟨f, e.length, g, 39, 2, ab, 0⟩, ⟨u, s.length, x, 96, 3, am, 0⟩] w' ∧ Heap.le bf bd ∧ Cells bd s am) ?_ ?_
   ·
    refine wp_block ?_
    refine wp_loop_n (fun hs a' w' => ∃ (x_v20 : List Bus) (x_v21 : Int) (ad : Option Addr) (ae : Nat) (a2 : List Value) (dg : Array Value) (bi : Heap), a' = ⟨dg, []⟩ ∧ Kn 89 [(a, 0), (b, 0), (d, 0)] ((tI 5 x_v21) :: K15m17) dg ∧ Mem ⟨w, h, noX⟩ bi [(a, 0), (b, 0), (d, 0)] [⟨(K15c15 p r_ q k m l o), some 28⟩, ⟨K15c9, some 43⟩, ⟨(K15c12 f e g x9 ad x_v20 ae r_), some 43⟩] [⟨f, e.length, g, 39, 2, ab, 0⟩, ⟨ad, x_v20.length, ae, 96, 3, a2, 0⟩] w' ∧ Heap.le bf bi ∧ Cells bi x_v20 a2 ∧ law_Route_l2 hs r_ x_v20 x_v21 = some s) n ?_ ?_
    ·
     exact Exists.intro ([] : List Bus) ⟨0, none, 0, ([]), _, _, rfl, (e7.keep [5, 3, 2, 1] (by rfl)), gs, (Heap.le_refl _), en, dl⟩
    ·
     rintro ce _ d9 ⟨x_v20, x_v21, ad, ae, a2, dg, bi, rfl, e9, bm, bs, b7, an⟩
     clear dl
     obtain _ | ce := ce
     ·
      rw [law_Route_l2] at an; cases an
     rw [law_Route_l2] at an
     replace aa := aa.mono bs
     replace y := y.mono bs
     replace z := z.mono bs
     replace al := al.mono bs
     refine wp_seq (wp_seq (wp_region_from (R_runk 0 5 [41, 5, 3, 2, 1] ((tB 41 (decide (x_v21 < ((r_.buses.length : Nat) : Int)))) :: (tI 5 x_v21) :: K15m17) e9 bm.plOk (by kernel_rfl) fun ja cp => ?_)))
     refine wpFrom_end (by decide) (wp_cond_sv (decide (x_v21 < ((r_.buses.length : Nat) : Int))) cp (by kernel_rfl) (fun cj => ?_) (fun cj => ?_))
     ·
      rw [cj, cond_true] at an
      refine wp_skip (wp_seq (wp_block (wp_region_G (by kernel_rfl) ?_)))
      replace bm := bm.drew
      refine wpG_of_D [] [(a, 0), (b, 0), (d, 0)] [⟨(K15c15 p r_ q k m l o), some 28⟩, ⟨K15c9, some 43⟩, ⟨(K15c12 f e g x9 ad x_v20 ae r_), some 43⟩] ?_
      refine D_run [0, 1, 2, 3, 4] [4, 3, 2, 1, 0] [48, 47, 45, 5, 3, 2, 1] ((tI 48 x_v21) :: (tS 47 k r_.buses.length m) :: (tS 45 ad x_v20.length ae) :: (tI 5 x_v21) :: K15m17) (fun _ _ _ _ _ h => h) cp bm.plOk (by kernel_rfl) (by rfl) (by kernel_rfl) fun jb fa => ?_
      obtain ⟨x49, ex49, an⟩ := bnd an
      obtain ⟨gy, g3, hl⟩ := idx_some ex49
      obtain ⟨ao, ar, i2, eh, hc, eo⟩ := y.get (by decide) hl
      obtain ⟨_, _, rfl, rfl, ⟨_, _, rfl, rfl, rfl⟩⟩ := hc
      have cw : Mem ⟨w, h, noX⟩ bi [(a, 0), (b, 0), (d, 0), (ao, ar + (x_v21 : Int).toNat * 3)] [⟨(K15c15 p r_ q k m l o), some 28⟩, ⟨K15c9, some 43⟩, ⟨(K15c12 f e g x9 ad x_v20 ae r_), some 43⟩, ⟨(K15c4 x49), none⟩] [⟨f, e.length, g, 39, 2, ab, 0⟩, ⟨ad, x_v20.length, ae, 96, 3, a2, 0⟩] (World.drew d9) := bm.addPlc (cs := (K15c4 x49)) (fun j c hj => eo j _ (map_get hj)) rfl (by kernel_rfl) (by kernel_rfl)
      refine D_index 5 (x_v21) (K15c4 x49) (fun _ _ _ _ _ h => h) rfl rfl (rfl) rfl (by decide) (by kernel_rfl) (by kernel_rfl) fa bm.plOk (by rfl) (by rfl) (by rfl) eh (by rfl) gy g3 (by kernel_rfl) fun hy (fb : Kn 89 [(a, 0), (b, 0), (d, 0), (ao, ar + (x_v21 : Int).toNat * 3)] ((tP 49 3 0) :: (tI 48 x_v21) :: (tS 47 k r_.buses.length m) :: (tS 45 ad x_v20.length ae) :: (tI 5 x_v21) :: K15m17) hy) => ?_
      refine D_run [6, 7, 8, 9, 10] [10, 9, 8, 7, 6, 5, 4, 3, 2, 1, 0] [54, 53, 51, 45, 5, 3, 2, 1] ((tI 54 x_v21) :: (tS 53 k r_.buses.length m) :: (tI 51 x49.stop) :: (tS 45 ad x_v20.length ae) :: (tI 5 x_v21) :: K15m17) (fun _ _ _ _ _ h => h) fb cw.plOk (by kernel_rfl) (by rfl) (by kernel_rfl) fun jc fc => ?_
      obtain ⟨x55, ex55, an⟩ := bnd an
      obtain ⟨gz, g4, hn⟩ := idx_some ex55
      obtain ⟨ax, a0, i3, ei, hd, ep⟩ := y.get (by decide) hn
      obtain ⟨_, _, rfl, rfl, ⟨_, _, rfl, rfl, rfl⟩⟩ := hd
      have cx : Mem ⟨w, h, noX⟩ bi (K15e7 a b d ao ar x_v21 ax a0) [⟨(K15c15 p r_ q k m l o), some 28⟩, ⟨K15c9, some 43⟩, ⟨(K15c12 f e g x9 ad x_v20 ae r_), some 43⟩, ⟨(K15c4 x49), none⟩, ⟨(K15c5 x55), none⟩] [⟨f, e.length, g, 39, 2, ab, 0⟩, ⟨ad, x_v20.length, ae, 96, 3, a2, 0⟩] (World.drew d9) := cw.addPlc (cs := (K15c5 x55)) (fun j c hj => ep j _ (map_get hj)) rfl (by kernel_rfl) (by kernel_rfl)
      refine D_index 11 (x_v21) (K15c5 x55) (fun _ _ _ _ _ h => h) rfl rfl (rfl) rfl (by decide) (by kernel_rfl) (by kernel_rfl) fc cw.plOk (by rfl) (by rfl) (by rfl) ei (by rfl) gz g4 (by kernel_rfl) fun hz (fd : Kn 89 (K15e7 a b d ao ar x_v21 ax a0) ((tP 55 4 0) :: (tI 54 x_v21) :: (tS 53 k r_.buses.length m) :: (tI 51 x49.stop) :: (tS 45 ad x_v20.length ae) :: (tI 5 x_v21) :: K15m17) hz) => ?_
      refine D_run [12, 13] [13, 12, 11, 10, 9, 8, 7, 6, 5, 4, 3, 2, 1, 0] [57, 51, 45, 5, 3, 2, 1] ((tA 57 [.int .i64 x55.tm.lo, .int .i64 x55.tm.hi]) :: (tI 51 x49.stop) :: (tS 45 ad x_v20.length ae) :: (tI 5 x_v21) :: K15m17) (fun _ _ _ _ _ h => h) fd cx.plOk (by kernel_rfl) (by rfl) (by kernel_rfl) fun jd fe => ?_
      obtain ⟨x58, ex58, an⟩ := bnd an
      refine D_loud 14 rfl (by kernel_rfl) (by decide) (rfl) fun K hK => ?_
      refine wp_call [.agg [.int .i64 x55.tm.lo, .int .i64 x55.tm.hi]] _ fe cx rfl rfl (by decide) (by rfl) rfl (fun _ _ => by kernel_rfl) (law_to_ok ce cx.has x55.tm ((rep_pair rep_int rep_int) : rep bi x55.tm _) ex58) fun jt bp jx ec bt cy => ?_
      replace aa := aa.mono bt
      replace y := y.mono bt
      replace z := z.mono bt
      replace al := al.mono bt
      replace b7 := b7.mono bt
      obtain ⟨_, rfl, ⟨_, _, rfl, rfl, rfl⟩⟩ := ec
      refine ⟨.one (.agg [.int .i64 x58.lo, .int .i64 x58.hi]), rfl, fun h0 (fg : Kn 89 (K15e7 a b d ao ar x_v21 ax a0) ((tA 58 [.int .i64 x58.lo, .int .i64 x58.hi]) :: (tA 57 [.int .i64 x55.tm.lo, .int .i64 x55.tm.hi]) :: (tI 51 x49.stop) :: (tS 45 ad x_v20.length ae) :: (tI 5 x_v21) :: K15m17) h0) => hK _ _ cy.plOk ?_⟩
      refine D_run [15] [15, 14, 13, 12, 11, 10, 9, 8, 7, 6, 5, 4, 3, 2, 1, 0] [59, 45, 5, 3, 2, 1] ((tA 59 [.int .i64 x49.stop, .int .i64 x58.lo, .int .i64 x58.hi]) :: (tS 45 ad x_v20.length ae) :: (tI 5 x_v21) :: K15m17) (fun _ _ _ _ _ h => h) fg cy.plOk (by kernel_rfl) (by rfl) (by kernel_rfl) fun je fh => ?_
      refine D_loud 16 rfl (by kernel_rfl) (by decide) (rfl) fun K hK => ?_
      refine wp_buildSlice 96 3 [.int .i64 x49.stop, .int .i64 x58.lo, .int .i64 x58.hi] fh cy rfl rfl (by decide) (by kernel_rfl) (by rfl) (by rfl) rfl (by decide) fun bw h1 ip (fi : Kn 89 (K15e7 a b d ao ar x_v21 ax a0) ((tS 60 bw 1 1) :: (tA 59 [.int .i64 x49.stop, .int .i64 x58.lo, .int .i64 x58.hi]) :: (tS 45 ad x_v20.length ae) :: (tI 5 x_v21) :: K15m17) h1) (cz : Mem ⟨w, h, noX⟩ bp (K15e7 a b d ao ar x_v21 ax a0) [⟨(K15c15 p r_ q k m l o), some 28⟩, ⟨K15c9, some 43⟩, ⟨(K15c12 f e g x9 ad x_v20 ae r_), some 43⟩, ⟨(K15c4 x49), none⟩, ⟨(K15c5 x55), none⟩] [⟨f, e.length, g, 39, 2, ab, 0⟩, ⟨ad, x_v20.length, ae, 96, 3, a2, 0⟩, ⟨bw, 1, 1, 96, 3, ([.int .i64 x49.stop, .int .i64 x58.lo, .int .i64 x58.hi] : List Value), 0⟩] ip) => ?_
      have cm : Cells bp ([(Bus.mk x49.stop x58)] : List Bus) ([.int .i64 x49.stop, .int .i64 x58.lo, .int .i64 x58.hi] : List Value) := ⟨_, _, rfl, ((rep_pair rep_int (rep_pair rep_int rep_int)) : rep bp ((Bus.mk x49.stop x58) : Bus) _), rfl⟩
      refine hK _ _ cz.plOk ?_
      obtain ⟨x61, ex61, an⟩ := bnd an
      obtain ⟨db, gp⟩ := app_some ex61
      refine D_loud 17 rfl (by kernel_rfl) (by decide) (rfl) fun K hK => ?_
      refine wp_append 1 24 1 _ (x61.length) _ ([.int .i64 x49.stop, .int .i64 x58.lo, .int .i64 x58.hi] : List Value) fi cz rfl rfl (by decide) rfl (by rfl) (by kernel_rfl) (by rfl) (by rfl) (Cells.len cm) (cz.rowCell (i := 2) rfl) cm.one (by rw [db]; simp) (by rw [db]; exact gp) (by decide) fun a7 ba dp h2 iq ez (fk : Kn 89 [(a, 0), (b, 0), (d, 0), (ao, ar + (x_v21 : Int).toNat * 3), (ax, a0 + (x_v21 : Int).toNat * 3)] [(61, .one (.c (.slice a7 x61.length ba))), (60, .one (.c (.slice bw 1 1))), (59, .one (.agg [.int .i64 x49.stop, .int .i64 x58.lo, .int .i64 x58.hi])), (45, .one (.c (.slice ad x_v20.length ae))), (5, .one (.c (.int .i64 x_v21))), (3, .one (.c (.ptr 2 0))), (2, .one (.c (.ptr 1 0))), (1, .one (.c (.ptr 0 0)))] h2) (c0 : Mem ⟨w, h, noX⟩ bp [(a, 0), (b, 0), (d, 0), (ao, ar + (x_v21 : Int).toNat * 3), (ax, a0 + (x_v21 : Int).toNat * 3)] [⟨[.slice p r_.legs.length q, .int .i64 r_.turn.lo, .int .i64 r_.turn.hi, .slice k r_.buses.length m, .slice l r_.spares.length o, .int .i64 r_.unit, .int .i64 r_.gap, .int .i64 r_.fr, .int .i64 r_.to_], some 28⟩, ⟨[.slice none 0 0, .int .i64 0, .int .i64 0, .slice none 0 0, .slice none 0 0, .int .i64 0, .int .i64 0, .int .i64 0, .int .i64 0], some 43⟩, ⟨[.slice f e.length g, .int .i64 x9.lo, .int .i64 x9.hi, .slice ad x_v20.length ae, .slice none 0 0, .int .i64 r_.unit, .int .i64 r_.gap, .int .i64 r_.fr, .int .i64 r_.to_], some 43⟩, ⟨[.int .i64 x49.stop, .int .i64 x49.tm.lo, .int .i64 x49.tm.hi], none⟩, ⟨[.int .i64 x55.stop, .int .i64 x55.tm.lo, .int .i64 x55.tm.hi], none⟩] [⟨f, e.length, g, 39, 2, ab, 0⟩, ⟨a7, x61.length, ba, 96, 3, (a2 ++ ([.int .i64 x49.stop, .int .i64 x58.lo, .int .i64 x58.hi] : List Value)), dp⟩, ⟨bw, 1, 1, 96, 3, ([.int .i64 x49.stop, .int .i64 x58.lo, .int .i64 x58.hi] : List Value), 0⟩] iq) => ?_
      have er : Cells bp x61 (a2 ++ ([.int .i64 x49.stop, .int .i64 x58.lo, .int .i64 x58.hi] : List Value)) := by rw [db]; exact Cells.append b7 cm
      obtain rfl : dp = 0 := Nat.le_zero.1 ez
      refine hK _ _ c0.plOk ?_
      refine D_run [18] [18, 17, 16, 15, 14, 13, 12, 11, 10, 9, 8, 7, 6, 5, 4, 3, 2, 1, 0] [62, 61, 5, 3, 2, 1] ((tP 62 2 3) :: (tS 61 a7 x61.length ba) :: (tI 5 x_v21) :: K15m17) (fun _ _ _ _ _ h => h) fk c0.plOk (by kernel_rfl) (by rfl) (by kernel_rfl) fun h3 fl => ?_
      refine D_sync 19 rfl (by kernel_rfl) (by decide) (rfl) (by kernel_rfl) fun K hK => ?_
      refine wp_store 2 3 (.c (.slice a7 x61.length ba)) [.slice f e.length g, .int .i64 x9.lo, .int .i64 x9.hi, .slice a7 x61.length ba, .slice none 0 0, .int .i64 r_.unit, .int .i64 r_.gap, .int .i64 r_.fr, .int .i64 r_.to_] fl c0 rfl rfl (by rfl) (by rfl) (by rfl) (by kernel_rfl) (by kernel_rfl) (by rfl) fun ir fm (dy : Mem ⟨w, h, noX⟩ bp (K15e7 a b d ao ar x_v21 ax a0) [⟨(K15c15 p r_ q k m l o), some 28⟩, ⟨K15c9, some 43⟩, ⟨[.slice f e.length g, .int .i64 x9.lo, .int .i64 x9.hi, .slice a7 x61.length ba, .slice none 0 0, .int .i64 r_.unit, .int .i64 r_.gap, .int .i64 r_.fr, .int .i64 r_.to_], some 43⟩, ⟨(K15c4 x49), none⟩, ⟨(K15c5 x55), none⟩] [⟨f, e.length, g, 39, 2, ab, 0⟩, ⟨a7, x61.length, ba, 96, 3, (a2 ++ ([.int .i64 x49.stop, .int .i64 x58.lo, .int .i64 x58.hi] : List Value)), 0⟩, ⟨bw, 1, 1, 96, 3, ([.int .i64 x49.stop, .int .i64 x58.lo, .int .i64 x58.hi] : List Value), 0⟩] ir) => hK _ _ ?_
      have fn : Kn 89 (K15e7 a b d ao ar x_v21 ax a0) ((tI 5 x_v21) :: K15m17) h3 := fm.keep [5, 3, 2, 1] (by rfl)
      refine wpG_end (by kernel_rfl) (wp_region_from (R_runk 0 3 [5, 3, 2, 1] ((tI 5 (IntKind.i64.wrap (x_v21 + 1))) :: K15m17) fn dy.plOk (by kernel_rfl) fun jg fo => ?_))
      refine wpFrom_end (by decide) ?_
      exact Exists.intro ce ⟨Nat.lt_succ_self _, Exists.intro x61 ⟨(IntKind.i64.wrap (x_v21 + 1)), a7, ba, (a2 ++ ([.int .i64 x49.stop, .int .i64 x58.lo, .int .i64 x58.hi] : List Value)), _, _, rfl, ((fo.keep [5, 3, 2, 1] (by rfl)).cut 3 (by kernel_rfl)), ((dy.cutRw 2).cutPl 3 (by kernel_rfl)), (Heap.le_trans bs bt), er, an⟩⟩
     ·
      rw [cj, cond_false] at an
      refine wp_exit ?_
      obtain rfl := Option.some.inj an
      exact Exists.intro ad ⟨ae, a2, _, _, rfl, (cp.keep [3, 2, 1] (by rfl)), bm, bs, b7⟩
   ·
    rintro _ iu ⟨u, x, am, df, bd, rfl, fp, dz, b9, az⟩
    replace aa := aa.mono b9
    replace y := y.mono b9
    replace z := z.mono b9
    replace al := al.mono b9
    refine wp_seq (wp_seq (wp_region_from (R_runk 0 1 [6, 3, 2, 1] ((tI 6 0) :: K15m17) fp dz.plOk (by kernel_rfl) fun jh fq => ?_)))
    refine wpFrom_end (by decide) ?_
    have gv : Mem ⟨w, h, noX⟩ bd [(a, 0), (b, 0), (d, 0)] [⟨(K15c15 p r_ q k m l o), some 28⟩, ⟨K15c9, some 43⟩, ⟨[.slice f e.length g, .int .i64 x9.lo, .int .i64 x9.hi, .slice u s.length x, .slice none 0 0, .int .i64 r_.unit, .int .i64 r_.gap, .int .i64 r_.fr, .int .i64 r_.to_], some 43⟩] [⟨f, e.length, g, 39, 2, ab, 0⟩, ⟨u, s.length, x, 96, 3, am, 0⟩, ⟨none, 0, 0, 110, 2, [], 0⟩] iu := dz.nilRow 110 2
    have es : Cells bd ([] : List Spare) [] := Cells.nil
    obtain ⟨ac, dm, H⟩ := bnd H
    refine wp_mid' (fun a' w' => ∃ (af : Option Addr) (ag : Nat) (bh : List Value) (dh : Array Value) (b1 : Heap), a' = ⟨dh, []⟩ ∧ Kn 89 [(a, 0), (b, 0), (d, 0)] [(tP 3 2 0), (tP 2 1 0)] dh ∧ Mem ⟨w, h, noX⟩ b1 [(a, 0), (b, 0), (d, 0)] [⟨(K15c15 p r_ q k m l o), some 28⟩, ⟨K15c9, some 43⟩, ⟨(K15c13 f e g x9 u s x af ac ag r_), some 43⟩] [⟨f, e.length, g, 39, 2, ab, 0⟩, ⟨u, s.length, x, 96, 3, am, 0⟩, ⟨af, ac.length, ag, 110, 2, bh, 0⟩] w' ∧ Heap.le bd b1 ∧ Cells b1 ac bh) ?_ ?_
    ·
     refine wp_block ?_
     refine wp_loop_n (fun ht a' w' => ∃ (x_v30 : List Spare) (x_v31 : Int) (ah : Option Addr) (ai : Nat) (a3 : List Value) (di : Array Value) (av : Heap), a' = ⟨di, []⟩ ∧ Kn 89 [(a, 0), (b, 0), (d, 0)] ((tI 6 x_v31) :: K15m17) di ∧ Mem ⟨w, h, noX⟩ av [(a, 0), (b, 0), (d, 0)] [⟨(K15c15 p r_ q k m l o), some 28⟩, ⟨K15c9, some 43⟩, ⟨(K15c14 f e g x9 u s x ah x_v30 ai r_), some 43⟩] [⟨f, e.length, g, 39, 2, ab, 0⟩, ⟨u, s.length, x, 96, 3, am, 0⟩, ⟨ah, x_v30.length, ai, 110, 2, a3, 0⟩] w' ∧ Heap.le bd av ∧ Cells av x_v30 a3 ∧ law_Route_l3 ht r_ x_v30 x_v31 = some ac) n ?_ ?_
     ·
      exact Exists.intro ([] : List Spare) ⟨0, none, 0, ([]), _, _, rfl, (fq.keep [6, 3, 2, 1] (by rfl)), gv, (Heap.le_refl _), es, dm⟩
     ·
      rintro de _ ea ⟨x_v30, x_v31, ah, ai, a3, di, av, rfl, fs, bn, bk, du, ap⟩
      clear dm
      obtain _ | de := de
      ·
       rw [law_Route_l3] at ap; cases ap
      rw [law_Route_l3] at ap
      replace aa := aa.mono bk
      replace y := y.mono bk
      replace z := z.mono bk
      replace al := al.mono bk
      replace az := az.mono bk
      refine wp_seq (wp_seq (wp_region_from (R_runk 0 5 [67, 6, 3, 2, 1] ((tB 67 (decide (x_v31 < ((r_.spares.length : Nat) : Int)))) :: (tI 6 x_v31) :: K15m17) fs bn.plOk (by kernel_rfl) fun ji cq => ?_)))
      refine wpFrom_end (by decide) (wp_cond_sv (decide (x_v31 < ((r_.spares.length : Nat) : Int))) cq (by kernel_rfl) (fun ck => ?_) (fun ck => ?_))
      ·
       rw [ck, cond_true] at ap
       refine wp_skip (wp_seq (wp_block (wp_region_G (by kernel_rfl) ?_)))
       replace bn := bn.drew
       refine wpG_of_D [] [(a, 0), (b, 0), (d, 0)] [⟨(K15c15 p r_ q k m l o), some 28⟩, ⟨K15c9, some 43⟩, ⟨(K15c14 f e g x9 u s x ah x_v30 ai r_), some 43⟩] ?_
       refine D_run [0, 1, 2, 3, 4] [4, 3, 2, 1, 0] [74, 73, 71, 6, 3, 2, 1] ((tI 74 x_v31) :: (tS 73 l r_.spares.length o) :: (tS 71 ah x_v30.length ai) :: (tI 6 x_v31) :: K15m17) (fun _ _ _ _ _ h => h) cq bn.plOk (by kernel_rfl) (by rfl) (by kernel_rfl) fun jj ft => ?_
       obtain ⟨x75, ex75, ap⟩ := bnd ap
       obtain ⟨g0, g5, ho⟩ := idx_some ex75
       obtain ⟨au, aw, i4, ej, he, et⟩ := z.get (by decide) ho
       obtain ⟨_, _, rfl, rfl, rfl⟩ := he
       have c1 : Mem ⟨w, h, noX⟩ av [(a, 0), (b, 0), (d, 0), (au, aw + (x_v31 : Int).toNat * 2)] [⟨(K15c15 p r_ q k m l o), some 28⟩, ⟨K15c9, some 43⟩, ⟨(K15c14 f e g x9 u s x ah x_v30 ai r_), some 43⟩, ⟨(K15c2 x75), none⟩] [⟨f, e.length, g, 39, 2, ab, 0⟩, ⟨u, s.length, x, 96, 3, am, 0⟩, ⟨ah, x_v30.length, ai, 110, 2, a3, 0⟩] (World.drew ea) := bn.addPlc (cs := (K15c2 x75)) (fun j c hj => et j _ (map_get hj)) rfl (by kernel_rfl) (by kernel_rfl)
       refine D_index 5 (x_v31) (K15c2 x75) (fun _ _ _ _ _ h => h) rfl rfl (rfl) rfl (by decide) (by kernel_rfl) (by kernel_rfl) ft bn.plOk (by rfl) (by rfl) (by rfl) ej (by rfl) g0 g5 (by kernel_rfl) fun h4 (fu : Kn 89 [(a, 0), (b, 0), (d, 0), (au, aw + (x_v31 : Int).toNat * 2)] ((tP 75 3 0) :: (tI 74 x_v31) :: (tS 73 l r_.spares.length o) :: (tS 71 ah x_v30.length ai) :: (tI 6 x_v31) :: K15m17) h4) => ?_
       refine D_run [6, 7, 8, 9, 10] [10, 9, 8, 7, 6, 5, 4, 3, 2, 1, 0] [80, 79, 77, 71, 6, 3, 2, 1] ((tI 80 x_v31) :: (tS 79 l r_.spares.length o) :: (tI 77 x75.stop) :: (tS 71 ah x_v30.length ai) :: (tI 6 x_v31) :: K15m17) (fun _ _ _ _ _ h => h) fu c1.plOk (by kernel_rfl) (by rfl) (by kernel_rfl) fun jk fv => ?_
       obtain ⟨x81, ex81, ap⟩ := bnd ap
       obtain ⟨g1, g6, hq⟩ := idx_some ex81
       obtain ⟨a4, a5, i5, ek, hf, eu⟩ := z.get (by decide) hq
       obtain ⟨_, _, rfl, rfl, rfl⟩ := hf
       have d0 : Mem ⟨w, h, noX⟩ av (K15e8 a b d au aw x_v31 a4 a5) [⟨(K15c15 p r_ q k m l o), some 28⟩, ⟨K15c9, some 43⟩, ⟨(K15c14 f e g x9 u s x ah x_v30 ai r_), some 43⟩, ⟨(K15c2 x75), none⟩, ⟨[.int .i64 x81.stop, .int .i64 x81.tm], none⟩] [⟨f, e.length, g, 39, 2, ab, 0⟩, ⟨u, s.length, x, 96, 3, am, 0⟩, ⟨ah, x_v30.length, ai, 110, 2, a3, 0⟩] (World.drew ea) := c1.addPlc (cs := [.int .i64 x81.stop, .int .i64 x81.tm]) (fun j c hj => eu j _ (map_get hj)) rfl (by kernel_rfl) (by kernel_rfl)
       refine D_index 11 (x_v31) [.int .i64 x81.stop, .int .i64 x81.tm] (fun _ _ _ _ _ h => h) rfl rfl (rfl) rfl (by decide) (by kernel_rfl) (by kernel_rfl) fv c1.plOk (by rfl) (by rfl) (by rfl) ek (by rfl) g1 g6 (by kernel_rfl) fun h5 (fw : Kn 89 (K15e8 a b d au aw x_v31 a4 a5) ((tP 81 4 0) :: (tI 80 x_v31) :: (tS 79 l r_.spares.length o) :: (tI 77 x75.stop) :: (tS 71 ah x_v30.length ai) :: (tI 6 x_v31) :: K15m17) h5) => ?_
       refine D_run [12, 13, 14] [14, 13, 12, 11, 10, 9, 8, 7, 6, 5, 4, 3, 2, 1, 0] [84, 71, 6, 3, 2, 1] ((tA 84 [.int .i64 x75.stop, .int .i64 x81.tm]) :: (tS 71 ah x_v30.length ai) :: (tI 6 x_v31) :: K15m17) (fun _ _ _ _ _ h => h) fw d0.plOk (by kernel_rfl) (by rfl) (by kernel_rfl) fun jl fx => ?_
       refine D_loud 15 rfl (by kernel_rfl) (by decide) (rfl) fun K hK => ?_
       refine wp_buildSlice 110 2 [.int .i64 x75.stop, .int .i64 x81.tm] fx d0 rfl rfl (by decide) (by kernel_rfl) (by rfl) (by rfl) rfl (by decide) fun bx h6 iv (fy : Kn 89 (K15e8 a b d au aw x_v31 a4 a5) ((tS 85 bx 1 1) :: (tA 84 [.int .i64 x75.stop, .int .i64 x81.tm]) :: (tS 71 ah x_v30.length ai) :: (tI 6 x_v31) :: K15m17) h6) (c2 : Mem ⟨w, h, noX⟩ av (K15e8 a b d au aw x_v31 a4 a5) [⟨(K15c15 p r_ q k m l o), some 28⟩, ⟨K15c9, some 43⟩, ⟨(K15c14 f e g x9 u s x ah x_v30 ai r_), some 43⟩, ⟨(K15c2 x75), none⟩, ⟨[.int .i64 x81.stop, .int .i64 x81.tm], none⟩] [⟨f, e.length, g, 39, 2, ab, 0⟩, ⟨u, s.length, x, 96, 3, am, 0⟩, ⟨ah, x_v30.length, ai, 110, 2, a3, 0⟩, ⟨bx, 1, 1, 110, 2, ([.int .i64 x75.stop, .int .i64 x81.tm] : List Value), 0⟩] iv) => ?_
       have cn : Cells av ([(Spare.mk x75.stop x81.tm)] : List Spare) ([.int .i64 x75.stop, .int .i64 x81.tm] : List Value) := ⟨_, _, rfl, ((rep_pair rep_int rep_int) : rep av ((Spare.mk x75.stop x81.tm) : Spare) _), rfl⟩
       refine hK _ _ c2.plOk ?_
       obtain ⟨x86, ex86, ap⟩ := bnd ap
       obtain ⟨dc, gq⟩ := app_some ex86
       refine D_loud 16 rfl (by kernel_rfl) (by decide) (rfl) fun K hK => ?_
       refine wp_append 2 16 1 _ (x86.length) _ ([.int .i64 x75.stop, .int .i64 x81.tm] : List Value) fy c2 rfl rfl (by decide) rfl (by rfl) (by kernel_rfl) (by rfl) (by rfl) (Cells.len cn) (c2.rowCell (i := 3) rfl) cn.one (by rw [dc]; simp) (by rw [dc]; exact gq) (by decide) fun a8 bb dq h7 iw e0 (f0 : Kn 89 [(a, 0), (b, 0), (d, 0), (au, aw + (x_v31 : Int).toNat * 2), (a4, a5 + (x_v31 : Int).toNat * 2)] [(86, .one (.c (.slice a8 x86.length bb))), (85, .one (.c (.slice bx 1 1))), (84, .one (.agg [.int .i64 x75.stop, .int .i64 x81.tm])), (71, .one (.c (.slice ah x_v30.length ai))), (6, .one (.c (.int .i64 x_v31))), (3, .one (.c (.ptr 2 0))), (2, .one (.c (.ptr 1 0))), (1, .one (.c (.ptr 0 0)))] h7) (c3 : Mem ⟨w, h, noX⟩ av [(a, 0), (b, 0), (d, 0), (au, aw + (x_v31 : Int).toNat * 2), (a4, a5 + (x_v31 : Int).toNat * 2)] [⟨[.slice p r_.legs.length q, .int .i64 r_.turn.lo, .int .i64 r_.turn.hi, .slice k r_.buses.length m, .slice l r_.spares.length o, .int .i64 r_.unit, .int .i64 r_.gap, .int .i64 r_.fr, .int .i64 r_.to_], some 28⟩, ⟨[.slice none 0 0, .int .i64 0, .int .i64 0, .slice none 0 0, .slice none 0 0, .int .i64 0, .int .i64 0, .int .i64 0, .int .i64 0], some 43⟩, ⟨[.slice f e.length g, .int .i64 x9.lo, .int .i64 x9.hi, .slice u s.length x, .slice ah x_v30.length ai, .int .i64 r_.unit, .int .i64 r_.gap, .int .i64 r_.fr, .int .i64 r_.to_], some 43⟩, ⟨[.int .i64 x75.stop, .int .i64 x75.tm], none⟩, ⟨[.int .i64 x81.stop, .int .i64 x81.tm], none⟩] [⟨f, e.length, g, 39, 2, ab, 0⟩, ⟨u, s.length, x, 96, 3, am, 0⟩, ⟨a8, x86.length, bb, 110, 2, (a3 ++ ([.int .i64 x75.stop, .int .i64 x81.tm] : List Value)), dq⟩, ⟨bx, 1, 1, 110, 2, ([.int .i64 x75.stop, .int .i64 x81.tm] : List Value), 0⟩] iw) => ?_
       have ev : Cells av x86 (a3 ++ ([.int .i64 x75.stop, .int .i64 x81.tm] : List Value)) := by rw [dc]; exact Cells.append du cn
       obtain rfl : dq = 0 := Nat.le_zero.1 e0
       refine hK _ _ c3.plOk ?_
       refine D_run [17] [17, 16, 15, 14, 13, 12, 11, 10, 9, 8, 7, 6, 5, 4, 3, 2, 1, 0] [87, 86, 6, 3, 2, 1] ((tP 87 2 4) :: (tS 86 a8 x86.length bb) :: (tI 6 x_v31) :: K15m17) (fun _ _ _ _ _ h => h) f0 c3.plOk (by kernel_rfl) (by rfl) (by kernel_rfl) fun h8 f1 => ?_
       refine D_sync 18 rfl (by kernel_rfl) (by decide) (rfl) (by kernel_rfl) fun K hK => ?_
       refine wp_store 2 4 (.c (.slice a8 x86.length bb)) [.slice f e.length g, .int .i64 x9.lo, .int .i64 x9.hi, .slice u s.length x, .slice a8 x86.length bb, .int .i64 r_.unit, .int .i64 r_.gap, .int .i64 r_.fr, .int .i64 r_.to_] f1 c3 rfl rfl (by rfl) (by rfl) (by rfl) (by kernel_rfl) (by kernel_rfl) (by rfl) fun ix f2 (d1 : Mem ⟨w, h, noX⟩ av (K15e8 a b d au aw x_v31 a4 a5) [⟨(K15c15 p r_ q k m l o), some 28⟩, ⟨K15c9, some 43⟩, ⟨[.slice f e.length g, .int .i64 x9.lo, .int .i64 x9.hi, .slice u s.length x, .slice a8 x86.length bb, .int .i64 r_.unit, .int .i64 r_.gap, .int .i64 r_.fr, .int .i64 r_.to_], some 43⟩, ⟨(K15c2 x75), none⟩, ⟨[.int .i64 x81.stop, .int .i64 x81.tm], none⟩] [⟨f, e.length, g, 39, 2, ab, 0⟩, ⟨u, s.length, x, 96, 3, am, 0⟩, ⟨a8, x86.length, bb, 110, 2, (a3 ++ ([.int .i64 x75.stop, .int .i64 x81.tm] : List Value)), 0⟩, ⟨bx, 1, 1, 110, 2, ([.int .i64 x75.stop, .int .i64 x81.tm] : List Value), 0⟩] ix) => hK _ _ ?_
       have f3 : Kn 89 (K15e8 a b d au aw x_v31 a4 a5) ((tI 6 x_v31) :: K15m17) h8 := f2.keep [6, 3, 2, 1] (by rfl)
       refine wpG_end (by kernel_rfl) (wp_region_from (R_runk 0 3 [6, 3, 2, 1] ((tI 6 (IntKind.i64.wrap (x_v31 + 1))) :: K15m17) f3 d1.plOk (by kernel_rfl) fun jm f4 => ?_))
       refine wpFrom_end (by decide) ?_
       exact Exists.intro de ⟨Nat.lt_succ_self _, Exists.intro x86 ⟨(IntKind.i64.wrap (x_v31 + 1)), a8, bb, (a3 ++ ([.int .i64 x75.stop, .int .i64 x81.tm] : List Value)), _, _, rfl, ((f4.keep [6, 3, 2, 1] (by rfl)).cut 3 (by kernel_rfl)), ((d1.cutRw 3).cutPl 3 (by kernel_rfl)), bk, ev, ap⟩⟩
      ·
       rw [ck, cond_false] at ap
       refine wp_exit ?_
       obtain rfl := Option.some.inj ap
       exact Exists.intro ah ⟨ai, a3, _, _, rfl, (cq.keep [3, 2] (by rfl)), bn, bk, du⟩
    ·
     rintro _ jz ⟨af, ag, bh, dh, b1, rfl, f5, d2, b2, bj⟩
     replace aa := aa.mono b2
     replace y := y.mono b2
     replace z := z.mono b2
     replace al := al.mono b2
     replace az := az.mono b2
     refine wp_seq (wp_region_from (R_runk 0 1 [88, 2] [(tA 88 (K15c13 f e g x9 u s x af ac ag r_)), (tP 2 1 0)] f5 d2.plOk (by kernel_rfl) fun h9 f6 => ?_))
     refine wpFrom_loud _ rfl (rfl) fun K hK => ?_
     refine wp_store 1 0 (.agg (K15c13 f e g x9 u s x af ac ag r_)) (K15c13 f e g x9 u s x af ac ag r_) f6 d2 rfl rfl (by rfl) (by rfl) (by rfl) (by kernel_rfl) (by kernel_rfl) (by rfl) fun ch f7 (d3 : Mem ⟨w, h, noX⟩ b1 [(a, 0), (b, 0), (d, 0)] [⟨(K15c15 p r_ q k m l o), some 28⟩, ⟨(K15c13 f e g x9 u s x af ac ag r_), some 43⟩, ⟨(K15c13 f e g x9 u s x af ac ag r_), some 43⟩] [⟨f, e.length, g, 39, 2, ab, 0⟩, ⟨u, s.length, x, 96, 3, am, 0⟩, ⟨af, ac.length, ag, 110, 2, bh, 0⟩] ch) => hK _ _ ?_
     have f8 : Kn 89 [(a, 0), (b, 0), (d, 0)] [(tP 2 1 0)] h9 := f7.keep [2] (by rfl)
     refine wpFrom_end (by decide) (wp_ret ?_)
     obtain ⟨ds, bu, g9, cc⟩ := d3.settle (i := 0) rfl
     replace aa := aa.mono bu
     replace y := y.mono bu
     replace z := z.mono bu
     replace al := al.mono bu
     replace az := az.mono bu
     replace bj := bj.mono bu
     replace cc : Mem ⟨w, h, noX⟩ ds [(a, 0), (b, 0), (d, 0)] [⟨(K15c15 p r_ q k m l o), some 28⟩, ⟨(K15c13 f e g x9 u s x af ac ag r_), some 43⟩, ⟨(K15c13 f e g x9 u s x af ac ag r_), some 43⟩] [⟨f, e.length, g, 39, 2, ab, (ab : List Value).length⟩, ⟨u, s.length, x, 96, 3, am, 0⟩, ⟨af, ac.length, ag, 110, 2, bh, 0⟩] ch := cc
     have b5 : RepS ds f g e := ⟨_, al, g9, d3.rowCap (i := 0) rfl⟩
     obtain ⟨dt, bl, ha, cd⟩ := cc.settle (i := 1) rfl
     replace aa := aa.mono bl
     replace y := y.mono bl
     replace z := z.mono bl
     replace b5 := b5.mono bl
     replace al := al.mono bl
     replace az := az.mono bl
     replace bj := bj.mono bl
     replace cd : Mem ⟨w, h, noX⟩ dt [(a, 0), (b, 0), (d, 0)] [⟨(K15c15 p r_ q k m l o), some 28⟩, ⟨(K15c13 f e g x9 u s x af ac ag r_), some 43⟩, ⟨(K15c13 f e g x9 u s x af ac ag r_), some 43⟩] [⟨f, e.length, g, 39, 2, ab, (ab : List Value).length⟩, ⟨u, s.length, x, 96, 3, am, (am : List Value).length⟩, ⟨af, ac.length, ag, 110, 2, bh, 0⟩] ch := cd
     have da : RepS dt u x s := ⟨_, az, ha, cc.rowCap (i := 1) rfl⟩
     obtain ⟨ci, bg, hb, c4⟩ := cd.settle (i := 2) rfl
     replace aa := aa.mono bg
     replace y := y.mono bg
     replace z := z.mono bg
     replace b5 := b5.mono bg
     replace da := da.mono bg
     replace al := al.mono bg
     replace az := az.mono bg
     replace bj := bj.mono bg
     replace c4 : Mem ⟨w, h, noX⟩ ci [(a, 0), (b, 0), (d, 0)] [⟨(K15c15 p r_ q k m l o), some 28⟩, ⟨(K15c13 f e g x9 u s x af ac ag r_), some 43⟩, ⟨(K15c13 f e g x9 u s x af ac ag r_), some 43⟩] [⟨f, e.length, g, 39, 2, ab, (ab : List Value).length⟩, ⟨u, s.length, x, 96, 3, am, (am : List Value).length⟩, ⟨af, ac.length, ag, 110, 2, bh, (bh : List Value).length⟩] ch := c4
     have g8 : RepS ci af ag ac := ⟨_, bj, hb, cd.rowCap (i := 2) rfl⟩
     obtain rfl := Option.some.inj H
     exact ret_ok (.one (.agg (K15c13 f e g x9 u s x af ac ag r_))) f8 c4 (by kernel_rfl) ⟨_, rfl, ((rep_pair (rep_slice b5) (rep_pair (rep_pair rep_int rep_int) (rep_pair (rep_slice da) (rep_pair (rep_slice g8) (rep_pair rep_int (rep_pair rep_int (rep_pair rep_int rep_int))))))) : rep ci ((Route.mk e x9 s ac r_.unit r_.gap r_.fr r_.to_) : Route) _)⟩
 refine D_two 2 12 rfl rfl (by kernel_rfl) (by decide) (rfl) (rfl) (fun K hK => ?_) (fun K hK => ?_)
 ·
  refine wp_call [.agg (K15c3 r_)] _ dv bv rfl rfl (by decide) (by rfl) rfl (fun _ _ => by kernel_rfl) (law_to_ok n bv.has r_.turn ((rep_pair rep_int rep_int) : rep h r_.turn _) ex9) fun ju eg j0 ed ca c5 => ?_
  replace aa := aa.mono ca
  replace y := y.mono ca
  replace z := z.mono ca
  obtain ⟨_, rfl, ⟨_, _, rfl, rfl, rfl⟩⟩ := ed
  refine ⟨.one (.agg [.int .i64 x9.lo, .int .i64 x9.hi]), rfl, fun ia (ga : Kn 89 [(a, 0), (b, 0)] ((tA 9 [.int .i64 x9.lo, .int .i64 x9.hi]) :: (K15m18 r_)) ia) => hK _ _ c5.plOk ?_⟩
  refine D_run [11] [11, 2, 10, 9, 8, 7, 6, 5, 4, 3, 1, 0] [18, 2, 1] [(tA 18 (K15c10 x9 r_)), (tP 2 1 0), (tP 1 0 0)] (fun _ _ _ _ _ h => h) ga c5.plOk (by kernel_rfl) (by rfl) (by kernel_rfl) fun jn gb => ?_
  refine D_loud 12 rfl (by kernel_rfl) (by decide) (rfl) fun K hK => ?_
  refine wp_alloc K15c9 gb c5 rfl rfl (by decide) (by kernel_rfl) (by kernel_rfl) (by kernel_rfl) fun b6 ib iy (gd : Kn 89 [(a, 0), (b, 0), (b6, 0)] [(tP 3 2 0), (tA 18 (K15c10 x9 r_)), (tP 2 1 0), (tP 1 0 0)] ib) (d5 : Mem ⟨w, h, noX⟩ eg [(a, 0), (b, 0), (b6, 0)] (K15p16 p r_ q k m l o) [] iy) => hK _ _ (PlOk.pop (Nat.le_of_eq rfl) (by kernel_rfl) d5.plOk) (D_ext (e' := [(a, 0), (b, 0), (b6, 0)]) (pl' := (K15p16 p r_ q k m l o)) (fun _ hp => hp.pop (Nat.le_of_eq rfl) (by kernel_rfl)) ?_)
  refine D_perm [11, 2, 12, 10, 9, 8, 7, 6, 5, 4, 3, 1, 0] (by kernel_rfl) (by rfl) (d7 b6 _ _ ?_)
  exact Exists.intro _ ⟨_, rfl, (gd.keep [3, 18, 2, 1] (by rfl)), d5, ca⟩
 ·
  refine wp_alloc K15c9 dv bv rfl rfl (by decide) (by kernel_rfl) (by kernel_rfl) (by kernel_rfl) fun b0 ic iz (gf : Kn 89 [(a, 0), (b, 0), (b0, 0)] ((tP 3 2 0) :: (K15m18 r_)) ic) (c6 : Mem ⟨w, h, noX⟩ h [(a, 0), (b, 0), (b0, 0)] (K15p16 p r_ q k m l o) [] iz) => hK _ _ (PlOk.pop (Nat.le_of_eq rfl) (by kernel_rfl) c6.plOk) (D_ext (e' := [(a, 0), (b, 0), (b0, 0)]) (pl' := (K15p16 p r_ q k m l o)) (fun _ hp => hp.pop (Nat.le_of_eq rfl) (by kernel_rfl)) ?_)
  refine D_loud 2 rfl (by kernel_rfl) (by decide) (rfl) fun K hK => ?_
  refine wp_call [.agg (K15c3 r_)] _ gf c6 rfl rfl (by decide) (by rfl) rfl (fun _ _ => by kernel_rfl) (law_to_ok n c6.has r_.turn ((rep_pair rep_int rep_int) : rep h r_.turn _) ex9) fun jv i7 j1 ee cb c7 => ?_
  replace aa := aa.mono cb
  replace y := y.mono cb
  replace z := z.mono cb
  obtain ⟨_, rfl, ⟨_, _, rfl, rfl, rfl⟩⟩ := ee
  refine ⟨.one (.agg [.int .i64 x9.lo, .int .i64 x9.hi]), rfl, fun ie (gg : Kn 89 [(a, 0), (b, 0), (b0, 0)] ((tA 9 [.int .i64 x9.lo, .int .i64 x9.hi]) :: (tP 3 2 0) :: (K15m18 r_)) ie) => hK _ _ c7.plOk ?_⟩
  refine D_run [11] [11, 2, 12, 10, 9, 8, 7, 6, 5, 4, 3, 1, 0] [18, 3, 2, 1] ((tA 18 (K15c10 x9 r_)) :: K15m17) (fun _ _ _ _ _ h => h) gg c7.plOk (by kernel_rfl) (by rfl) (by kernel_rfl) fun jp gh => ?_
  refine D_perm [11, 2, 12, 10, 9, 8, 7, 6, 5, 4, 3, 1, 0] (by kernel_rfl) (by rfl) (d7 b0 _ _ ?_)
  exact Exists.intro _ ⟨_, rfl, (gh.keep [3, 18, 2, 1] (by rfl)), c7, cb⟩
end Go.Proofs.Ytokchpjijlebiaa
