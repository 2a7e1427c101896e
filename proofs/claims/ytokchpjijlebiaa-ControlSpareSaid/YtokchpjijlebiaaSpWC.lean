/- Each call computes its plain function. -/
import Derived.Test.YtokchpjijlebiaaProg
import Derived.Test.YtokchpjijlebiaaSpP0
import Derived.Test.YtokchpjijlebiaaSpWA
set_option linter.all false
namespace Go.Proofs.Ytokchpjijlebiaa
open Go Go.RowKit
open Rep (rep)
open KRep (kv)
open VRep (rv)
abbrev K15c1 (x31 : Rg) : List SC := [.int .i64 x31.lo, .int .i64 x31.hi]
abbrev K15c2 (x75 : Spare) : List SC := [.int .i64 x75.stop, .int .i64 x75.tm]
abbrev K15c3 (x81 : Spare) : List SC := [.int .i64 x81.stop, .int .i64 x81.tm]
abbrev K15c4 (r_ : Route) : List SC := [.int .i64 r_.turn.lo, .int .i64 r_.turn.hi]
abbrev K15c5 (x49 : Bus) : List SC := [.int .i64 x49.stop, .int .i64 x49.tm.lo, .int .i64 x49.tm.hi]
abbrev K15c6 (x55 : Bus) : List SC := [.int .i64 x55.stop, .int .i64 x55.tm.lo, .int .i64 x55.tm.hi]
abbrev K15e7 (a d e ay a1 : Nat) (x_v11 : Int) : Env := [(a, 0), (d, 0), (e, 0), (ay, a1 + (x_v11 : Int).toNat * 2)]
abbrev K15e8 (a d e an aq : Nat) (x_v21 : Int) (ax a0 : Nat) : Env := [(a, 0), (d, 0), (e, 0), (an, aq + (x_v21 : Int).toNat * 3), (ax, a0 + (x_v21 : Int).toNat * 3)]
abbrev K15e9 (a d e ar aw : Nat) (x_v31 : Int) (a4 a5 : Nat) : Env := [(a, 0), (d, 0), (e, 0), (ar, aw + (x_v31 : Int).toNat * 2), (a4, a5 + (x_v31 : Int).toNat * 2)]
abbrev K15c10 : List SC := [.slice none 0 0, .int .i64 0, .int .i64 0, .slice none 0 0, .slice none 0 0, .int .i64 0, .int .i64 0, .int .i64 0, .int .i64 0]
abbrev K15c11 (x9 : Rg) (r_ : Route) : List SC := [.slice none 0 0, .int .i64 x9.lo, .int .i64 x9.hi, .slice none 0 0, .slice none 0 0, .int .i64 r_.unit, .int .i64 r_.gap, .int .i64 r_.fr, .int .i64 r_.to_]
abbrev K15c12 (ai : Option Addr) (x_v10 : List Rg) (aj : Nat) (x9 : Rg) (r_ : Route) : List SC := [.slice ai x_v10.length aj, .int .i64 x9.lo, .int .i64 x9.hi, .slice none 0 0, .slice none 0 0, .int .i64 r_.unit, .int .i64 r_.gap, .int .i64 r_.fr, .int .i64 r_.to_]
abbrev K15c13 (g : Option Addr) (f : List Rg) (k : Nat) (x9 : Rg) (ab : Option Addr) (x_v20 : List Bus) (ac : Nat) (r_ : Route) : List SC := [.slice g f.length k, .int .i64 x9.lo, .int .i64 x9.hi, .slice ab x_v20.length ac, .slice none 0 0, .int .i64 r_.unit, .int .i64 r_.gap, .int .i64 r_.fr, .int .i64 r_.to_]
abbrev K15c14 (g : Option Addr) (f : List Rg) (k : Nat) (x9 : Rg) (y : Option Addr) (x : List Bus) (z : Nat) (ae : Option Addr) (ad : List Spare) (af : Nat) (r_ : Route) : List SC := [.slice g f.length k, .int .i64 x9.lo, .int .i64 x9.hi, .slice y x.length z, .slice ae ad.length af, .int .i64 r_.unit, .int .i64 r_.gap, .int .i64 r_.fr, .int .i64 r_.to_]
abbrev K15c15 (g : Option Addr) (f : List Rg) (k : Nat) (x9 : Rg) (y : Option Addr) (x : List Bus) (z : Nat) (ag : Option Addr) (x_v30 : List Spare) (ah : Nat) (r_ : Route) : List SC := [.slice g f.length k, .int .i64 x9.lo, .int .i64 x9.hi, .slice y x.length z, .slice ag x_v30.length ah, .int .i64 r_.unit, .int .i64 r_.gap, .int .i64 r_.fr, .int .i64 r_.to_]
abbrev K15c16 (s : Option Addr) (r_ : Route) (u : Nat) (l : Option Addr) (p : Nat) (m : Option Addr) (q : Nat) : List SC := [.slice s r_.legs.length u, .int .i64 r_.turn.lo, .int .i64 r_.turn.hi, .slice l r_.buses.length p, .slice m r_.spares.length q, .int .i64 r_.unit, .int .i64 r_.gap, .int .i64 r_.fr, .int .i64 r_.to_]
abbrev K15p17 (s : Option Addr) (r_ : Route) (u : Nat) (l : Option Addr) (p : Nat) (m : Option Addr) (q : Nat) : List Plc := [⟨(K15c16 s r_ u l p m q), some 28⟩, ⟨K15c10, some 43⟩, ⟨K15c10, some 43⟩]
abbrev K15m18 : TM := [(tP 3 2 0), (tP 2 1 0), (tP 1 0 0)]
abbrev K15m19 (r_ : Route) : TM := [(tI 17 r_.to_), (tI 15 r_.fr), (tI 13 r_.gap), (tI 11 r_.unit), (tA 8 (K15c4 r_)), (tP 2 1 0), (tP 1 0 0)]
abbrev K15m20 (ab : Option Addr) (x_v20 : List Bus) (ac : Nat) (x_v21 : Int) : TM := (tS 45 ab x_v20.length ac) :: (tI 5 x_v21) :: K15m18
set_option maxRecDepth 100000 in
set_option maxHeartbeats 4000000 in
theorem law_Route_ok (n : Nat) {h : Heap} {w : World} (hh : Has h w) (r_ : Route) {cs_r_ : List Value} (hx_r_ : rep h r_ cs_r_) {r : Route} (H : law_Route n r_ = some r) :
  Calls Try.prog 15 #[.agg cs_r_.toArray] w (Ret (fun h v => ∃ cs, v = .agg cs.toArray ∧ rep h r cs) h w) := by
 obtain ⟨_, _, rfl, ⟨s, u, rfl, az⟩, ⟨_, _, rfl, ⟨_, _, rfl, rfl, rfl⟩, ⟨_, _, rfl, ⟨l, p, rfl, av⟩, ⟨_, _, rfl, ⟨m, q, rfl, am⟩, ⟨_, _, rfl, rfl, ⟨_, _, rfl, rfl, ⟨_, _, rfl, rfl, rfl⟩⟩⟩⟩⟩⟩⟩ := hx_r_
 refine enter 89 [.agg (K15c16 s r_ u l p m q)] Try.func15 rfl rfl rfl rfl fun t hk => ?_
 have hm := Mem.begin h w hh
 unfold law_Route at H
 refine wp_seq (wp_region_from (wl fun K hK => ?_))
 refine wb (.agg (K15c16 s r_ u l p m q)) hk hm fun a h3 iw (fb : Kn 89 [(a, 0)] [(tP 1 0 0), (tA 0 (K15c16 s r_ u l p m q))] h3) (g0 : Mem ⟨w, h, noX⟩ h [(a, 0)] [⟨(K15c16 s r_ u l p m q), some 28⟩] [] iw) => hK _ _ ?_
 refine wl fun K hK => ?_
 refine wa K15c10 fb g0 fun d ea ec (fi : Kn 89 [(a, 0), (d, 0)] [(tP 2 1 0), (tP 1 0 0), (tA 0 (K15c16 s r_ u l p m q))] ea) (b1 : Mem ⟨w, h, noX⟩ h [(a, 0), (d, 0)] [⟨(K15c16 s r_ u l p m q), some 28⟩, ⟨K15c10, some 43⟩] [] ec) => hK _ _ ?_
 have fm : Kn 89 [(a, 0), (d, 0)] [(tP 2 1 0), (tP 1 0 0)] ea := fi.kp
 refine wf (wp_seq (wp_region_G (by kernel_rfl) ?_))
 replace b1 := b1.drew
 refine wpG_of_D [] [(a, 0), (d, 0)] [⟨(K15c16 s r_ u l p m q), some 28⟩, ⟨K15c10, some 43⟩] ?_
 refine Dr [0, 1, 3, 4, 5, 6, 7, 8, 9, 10] [10, 9, 8, 7, 6, 5, 4, 3, 1, 0] (K15m19 r_) fm b1 fun ia fu => ?_
 obtain ⟨x9, ex9, H⟩ := bnd H
 have du : Kn 89 [(a, 0), (d, 0), (0, 0)] (K15m19 r_) ia := fu.push (0, 0) (by kernel_rfl)
 have cx : Mem ⟨w, h, noX⟩ h [(a, 0), (d, 0), (0, 0)] [⟨(K15c16 s r_ u l p m q), some 28⟩, ⟨K15c10, some 43⟩, ⟨[], none⟩] [] (World.drew ec) := b1.addPlc (b := 0) (o := 0) (cs := []) (fun j c hj => by simp at hj) rfl (by kernel_rfl) (by kernel_rfl)
 refine D_ext (e' := [(a, 0), (d, 0), (0, 0)]) (pl' := [⟨(K15c16 s r_ u l p m q), some 28⟩, ⟨K15c10, some 43⟩, ⟨[], none⟩]) (fun _ hp => hp.pop (Nat.le_of_eq rfl) (by kernel_rfl)) ?_
 refine D_share (fun W => ∀ (e : Nat), ∀ a' w', (∃ (b6 : Array Value) (be : Heap), a' = ⟨b6, []⟩ ∧ Kn 89 [(a, 0), (d, 0), (e, 0)] [(tP 3 2 0), (tA 18 (K15c11 x9 r_)), (tP 2 1 0), (tP 1 0 0)] b6 ∧ Mem ⟨w, h, noX⟩ be [(a, 0), (d, 0), (e, 0)] (K15p17 s r_ u l p m q) [] w' ∧ Heap.le h be) → W [(a, 0), (d, 0), (e, 0)] (K15p17 s r_ u l p m q) [11, 2, 12, 10, 9, 8, 7, 6, 5, 4, 3, 1, 0] a' w') ?_ (fun d9 => ?_)
 ·
  intro e
  rintro _ j3 ⟨b6, be, rfl, f6, g2, cn⟩
  replace az := az.mono cn
  replace av := av.mono cn
  replace am := am.mono cn
  refine D_sync 13 rfl (by kernel_rfl) (by decide) (rfl) (by kernel_rfl) fun K hK => ?_
  refine wst 2 0 (.agg (K15c11 x9 r_)) (K15c11 x9 r_) f6 g2 fun ee gg (d7 : Mem ⟨w, h, noX⟩ be [(a, 0), (d, 0), (e, 0)] [⟨(K15c16 s r_ u l p m q), some 28⟩, ⟨K15c10, some 43⟩, ⟨(K15c11 x9 r_), some 43⟩] [] ee) => hK _ _ ?_
  refine wpG_of_D [] [(a, 0), (d, 0), (e, 0)] [⟨(K15c16 s r_ u l p m q), some 28⟩, ⟨K15c10, some 43⟩, ⟨(K15c11 x9 r_), some 43⟩] ?_
  have gl : Kn 89 [(a, 0), (d, 0), (e, 0)] K15m18 b6 := gg.kp
  refine wpD_end (by kernel_rfl) (wp_seq (wp_seq (wp_region_from (Rk 0 1 ((tI 4 0) :: K15m18) gl d7 fun ju gm => ?_))))
  refine wf ?_
  have g3 : Mem ⟨w, h, noX⟩ be [(a, 0), (d, 0), (e, 0)] [⟨(K15c16 s r_ u l p m q), some 28⟩, ⟨K15c10, some 43⟩, ⟨(K15c11 x9 r_), some 43⟩] [⟨none, 0, 0, 39, 2, [], 0⟩] ee := d7.nilRow 39 2
  have ez : Cells be ([] : List Rg) [] := Cells.nil
  obtain ⟨f, dl, H⟩ := bnd H
  refine wp_mid' (fun a' w' => ∃ (g : Option Addr) (k : Nat) (aa : List Value) (dh : Array Value) (bf : Heap), a' = ⟨dh, []⟩ ∧ Kn 89 [(a, 0), (d, 0), (e, 0)] K15m18 dh ∧ Mem ⟨w, h, noX⟩ bf [(a, 0), (d, 0), (e, 0)] [⟨(K15c16 s r_ u l p m q), some 28⟩, ⟨K15c10, some 43⟩, ⟨[.slice g f.length k, .int .i64 x9.lo, .int .i64 x9.hi, .slice none 0 0, .slice none 0 0, .int .i64 r_.unit, .int .i64 r_.gap, .int .i64 r_.fr, .int .i64 r_.to_], some 43⟩] [⟨g, f.length, k, 39, 2, aa, 0⟩] w' ∧ Heap.le be bf ∧ Cells bf f aa) ?_ ?_
  ·
   refine wp_block ?_
   refine wp_loop_n (fun h0 a' w' => ∃ (x_v10 : List Rg) (x_v11 : Int) (ai : Option Addr) (aj : Nat) (a6 : List Value) (di : Array Value) (bn : Heap), a' = ⟨di, []⟩ ∧ Kn 89 [(a, 0), (d, 0), (e, 0)] ((tI 4 x_v11) :: K15m18) di ∧ Mem ⟨w, h, noX⟩ bn [(a, 0), (d, 0), (e, 0)] [⟨(K15c16 s r_ u l p m q), some 28⟩, ⟨K15c10, some 43⟩, ⟨(K15c12 ai x_v10 aj x9 r_), some 43⟩] [⟨ai, x_v10.length, aj, 39, 2, a6, 0⟩] w' ∧ Heap.le be bn ∧ Cells bn x_v10 a6 ∧ law_Route_l1 h0 r_ x_v10 x_v11 = some f) n ?_ ?_
   ·
    exact Exists.intro ([] : List Rg) ⟨0, none, 0, ([]), _, _, rfl, gm.kp, g3, (Heap.le_refl _), ez, dl⟩
   ·
    rintro b5 _ i6 ⟨x_v10, x_v11, ai, aj, a6, di, bn, rfl, gn, bl, bv, bz, ap⟩
    clear dl
    obtain _ | b5 := b5
    ·
     rw [law_Route_l1] at ap; cases ap
    rw [law_Route_l1] at ap
    replace az := az.mono bv
    replace av := av.mono bv
    replace am := am.mono bv
    refine wp_seq (wp_seq (wp_region_from (Rk 0 5 ((tB 23 (decide (x_v11 < ((r_.legs.length : Nat) : Int)))) :: (tI 4 x_v11) :: K15m18) gn bl fun jv cj => ?_)))
    refine wf (wC (decide (x_v11 < ((r_.legs.length : Nat) : Int))) cj (fun cb => ?_) (fun cb => ?_))
    ·
     rw [cb, cond_true] at ap
     refine wp_skip (wp_seq (wp_block (wp_region_G (by kernel_rfl) ?_)))
     replace bl := bl.drew
     refine wpG_of_D [] [(a, 0), (d, 0), (e, 0)] [⟨(K15c16 s r_ u l p m q), some 28⟩, ⟨K15c10, some 43⟩, ⟨(K15c12 ai x_v10 aj x9 r_), some 43⟩] ?_
     refine Dr [0, 1, 2, 3, 4] (dn 4) ((tI 30 x_v11) :: (tS 29 s r_.legs.length u) :: (tS 27 ai x_v10.length aj) :: (tI 4 x_v11) :: K15m18) cj bl fun jw go => ?_
     obtain ⟨x31, ex31, ap⟩ := bnd ap
     obtain ⟨g8, hd, hx⟩ := idx_some ex31
     obtain ⟨ay, a1, jc, eo, hs, e0⟩ := az.get (by decide) hx
     obtain ⟨_, _, rfl, rfl, rfl⟩ := hs
     have c5 : Mem ⟨w, h, noX⟩ bn (K15e7 a d e ay a1 x_v11) [⟨(K15c16 s r_ u l p m q), some 28⟩, ⟨K15c10, some 43⟩, ⟨(K15c12 ai x_v10 aj x9 r_), some 43⟩, ⟨(K15c1 x31), none⟩] [⟨ai, x_v10.length, aj, 39, 2, a6, 0⟩] (World.drew i6) := bl.addPlc (cs := (K15c1 x31)) (fun j c hj => e0 j _ (map_get hj)) rfl (by kernel_rfl) (by kernel_rfl)
     refine D_index 5 (x_v11) (K15c1 x31) (fun _ _ _ _ _ h => h) rfl rfl (rfl) rfl (by decide) (by kernel_rfl) (by kernel_rfl) go bl.plOk (by rfl) (by rfl) (by rfl) eo (by rfl) g8 hd (by kernel_rfl) fun io (gp : Kn 89 (K15e7 a d e ay a1 x_v11) ((tP 31 3 0) :: (tI 30 x_v11) :: (tS 29 s r_.legs.length u) :: (tS 27 ai x_v10.length aj) :: (tI 4 x_v11) :: K15m18) io) => ?_
     refine Dr [6] (dn 6) ((tA 32 (K15c1 x31)) :: (tS 27 ai x_v10.length aj) :: (tI 4 x_v11) :: K15m18) gp c5 fun jx gq => ?_
     obtain ⟨x33, ex33, ap⟩ := bnd ap
     refine Dl 7 fun K hK => ?_
     refine wc [.agg (K15c1 x31)] gq c5 (law_to_ok b5 c5.has x31 ((rep_pair rep_int rep_int) : rep bn x31 _) ex33) fun j1 bo j7 ei dx d8 => ?_
     replace bz := bz.mono dx
     obtain ⟨_, rfl, ⟨_, _, rfl, rfl, rfl⟩⟩ := ei
     refine ⟨.one (.agg [.int .i64 x33.lo, .int .i64 x33.hi]), rfl, fun ip (gr : Kn 89 (K15e7 a d e ay a1 x_v11) ((tA 33 [.int .i64 x33.lo, .int .i64 x33.hi]) :: (tA 32 (K15c1 x31)) :: (tS 27 ai x_v10.length aj) :: (tI 4 x_v11) :: K15m18) ip) => hK _ _ d8.plOk ?_⟩
     refine Dl 8 fun K hK => ?_
     refine wS 39 2 [.int .i64 x33.lo, .int .i64 x33.hi] gr d8 fun bs iq i7 (gs : Kn 89 (K15e7 a d e ay a1 x_v11) ((tS 34 bs 1 1) :: (tA 33 [.int .i64 x33.lo, .int .i64 x33.hi]) :: (tA 32 (K15c1 x31)) :: (tS 27 ai x_v10.length aj) :: (tI 4 x_v11) :: K15m18) iq) (c6 : Mem ⟨w, h, noX⟩ bo (K15e7 a d e ay a1 x_v11) [⟨(K15c16 s r_ u l p m q), some 28⟩, ⟨K15c10, some 43⟩, ⟨(K15c12 ai x_v10 aj x9 r_), some 43⟩, ⟨(K15c1 x31), none⟩] [⟨ai, x_v10.length, aj, 39, 2, a6, 0⟩, ⟨bs, 1, 1, 39, 2, ([.int .i64 x33.lo, .int .i64 x33.hi] : List Value), 0⟩] i7) => ?_
     have cg : Cells bo ([x33] : List Rg) ([.int .i64 x33.lo, .int .i64 x33.hi] : List Value) := ⟨_, _, rfl, ((rep_pair rep_int rep_int) : rep bo (x33 : Rg) _), rfl⟩
     refine hK _ _ c6.plOk ?_
     obtain ⟨x35, ex35, ap⟩ := bnd ap
     obtain ⟨db, gw⟩ := app_some ex35
     refine Dl 9 fun K hK => ?_
     refine wp_append 0 16 1 _ (x35.length) _ ([.int .i64 x33.lo, .int .i64 x33.hi] : List Value) gs c6 rfl rfl (by decide) rfl (by rfl) (by kernel_rfl) (by rfl) (by rfl) (Cells.len cg) (c6.rowCell (i := 1) rfl) cg.one (by rw [db]; simp) (by rw [db]; exact gw) (by decide) fun a9 ba dm h1 ir e1 (e4 : Kn 89 (K15e7 a d e ay a1 x_v11) ((tS 35 a9 x35.length ba) :: (tS 34 bs 1 1) :: (tA 33 [.int .i64 x33.lo, .int .i64 x33.hi]) :: (tA 32 (K15c1 x31)) :: (tS 27 ai x_v10.length aj) :: (tI 4 x_v11) :: K15m18) h1) (cq : Mem ⟨w, h, noX⟩ bo (K15e7 a d e ay a1 x_v11) [⟨(K15c16 s r_ u l p m q), some 28⟩, ⟨K15c10, some 43⟩, ⟨(K15c12 ai x_v10 aj x9 r_), some 43⟩, ⟨(K15c1 x31), none⟩] [⟨a9, x35.length, ba, 39, 2, (a6 ++ ([.int .i64 x33.lo, .int .i64 x33.hi] : List Value)), dm⟩, ⟨bs, 1, 1, 39, 2, ([.int .i64 x33.lo, .int .i64 x33.hi] : List Value), 0⟩] ir) => ?_
     have ep : Cells bo x35 (a6 ++ ([.int .i64 x33.lo, .int .i64 x33.hi] : List Value)) := by rw [db]; exact Cells.append bz cg
     obtain rfl : dm = 0 := Nat.le_zero.1 e1
     refine hK _ _ cq.plOk ?_
     refine Dr [10] (dn 10) ((tP 36 2 0) :: (tS 35 a9 x35.length ba) :: (tI 4 x_v11) :: K15m18) e4 cq fun h2 e5 => ?_
     refine D_sync 11 rfl (by kernel_rfl) (by decide) (rfl) (by kernel_rfl) fun K hK => ?_
     refine wst 2 0 (.c (.slice a9 x35.length ba)) [.slice a9 x35.length ba, .int .i64 x9.lo, .int .i64 x9.hi, .slice none 0 0, .slice none 0 0, .int .i64 r_.unit, .int .i64 r_.gap, .int .i64 r_.fr, .int .i64 r_.to_] e5 cq fun iu e6 (dy : Mem ⟨w, h, noX⟩ bo (K15e7 a d e ay a1 x_v11) [⟨(K15c16 s r_ u l p m q), some 28⟩, ⟨K15c10, some 43⟩, ⟨[.slice a9 x35.length ba, .int .i64 x9.lo, .int .i64 x9.hi, .slice none 0 0, .slice none 0 0, .int .i64 r_.unit, .int .i64 r_.gap, .int .i64 r_.fr, .int .i64 r_.to_], some 43⟩, ⟨(K15c1 x31), none⟩] [⟨a9, x35.length, ba, 39, 2, (a6 ++ ([.int .i64 x33.lo, .int .i64 x33.hi] : List Value)), 0⟩, ⟨bs, 1, 1, 39, 2, ([.int .i64 x33.lo, .int .i64 x33.hi] : List Value), 0⟩] iu) => hK _ _ ?_
     have e7 : Kn 89 (K15e7 a d e ay a1 x_v11) ((tI 4 x_v11) :: K15m18) h2 := e6.kp
     refine wpG_end (by kernel_rfl) (wp_region_from (Rk 0 3 ((tI 4 (IntKind.i64.wrap (x_v11 + 1))) :: K15m18) e7 dy fun je e8 => ?_))
     refine wf ?_
     exact Exists.intro b5 ⟨Nat.lt_succ_self _, Exists.intro x35 ⟨(IntKind.i64.wrap (x_v11 + 1)), a9, ba, (a6 ++ ([.int .i64 x33.lo, .int .i64 x33.hi] : List Value)), _, _, rfl, ((e8.keep [4, 3, 2, 1] (by rfl)).cut 3 (by kernel_rfl)), ((dy.cutRw 1).cutPl 3 (by kernel_rfl)), (Heap.le_trans bv dx), ep, ap⟩⟩
    ·
     rw [cb, cond_false] at ap
     refine wp_exit ?_
     obtain rfl := Option.some.inj ap
     exact Exists.intro ai ⟨aj, a6, _, _, rfl, cj.kp, bl, bv, bz⟩
  ·
   rintro _ iv ⟨g, k, aa, dh, bf, rfl, e9, dz, ck, bi⟩
   replace az := az.mono ck
   replace av := av.mono ck
   replace am := am.mono ck
   refine wp_seq (wp_seq (wp_region_from (Rk 0 1 ((tI 5 0) :: K15m18) e9 dz fun jf fa => ?_)))
   refine wf ?_
   have gz : Mem ⟨w, h, noX⟩ bf [(a, 0), (d, 0), (e, 0)] [⟨(K15c16 s r_ u l p m q), some 28⟩, ⟨K15c10, some 43⟩, ⟨[.slice g f.length k, .int .i64 x9.lo, .int .i64 x9.hi, .slice none 0 0, .slice none 0 0, .int .i64 r_.unit, .int .i64 r_.gap, .int .i64 r_.fr, .int .i64 r_.to_], some 43⟩] [⟨g, f.length, k, 39, 2, aa, 0⟩, ⟨none, 0, 0, 96, 3, [], 0⟩] iv := dz.nilRow 96 3
   have er : Cells bf ([] : List Bus) [] := Cells.nil
   obtain ⟨x, dj, H⟩ := bnd H
   refine wp_mid' (fun a' w' => ∃ (y : Option Addr) (z : Nat) (ak : List Value) (dd : Array Value) (bd : Heap), a' = ⟨dd, []⟩ ∧ Kn 89 [(a, 0), (d, 0), (e, 0)] K15m18 dd ∧ Mem ⟨w, h, noX⟩ bd [(a, 0), (d, 0), (e, 0)] [⟨(K15c16 s r_ u l p m q), some 28⟩, ⟨K15c10, some 43⟩, ⟨[.slice g f.length k, .int .i64 x9.lo, .int .i64 x9.hi, .slice y x.length z, .slice none 0 0, .int .i64 r_.unit, .int .i64 r_.gap, .int .i64 r_.fr, .int .i64 r_.to_], some 43⟩] [⟨g, f.length, k, 39, 2, aa, 0⟩, ⟨y, x.length, z, 96, 3, ak, 0⟩] w' ∧ Heap.le bf bd ∧ Cells bd x ak) ?_ ?_
   ·
    refine wp_block ?_
    refine wp_loop_n (fun hy a' w' => ∃ (x_v20 : List Bus) (x_v21 : Int) (ab : Option Addr) (ac : Nat) (a2 : List Value) (de : Array Value) (bh : Heap), a' = ⟨de, []⟩ ∧ Kn 89 [(a, 0), (d, 0), (e, 0)] ((tI 5 x_v21) :: K15m18) de ∧ Mem ⟨w, h, noX⟩ bh [(a, 0), (d, 0), (e, 0)] [⟨(K15c16 s r_ u l p m q), some 28⟩, ⟨K15c10, some 43⟩, ⟨(K15c13 g f k x9 ab x_v20 ac r_), some 43⟩] [⟨g, f.length, k, 39, 2, aa, 0⟩, ⟨ab, x_v20.length, ac, 96, 3, a2, 0⟩] w' ∧ Heap.le bf bh ∧ Cells bh x_v20 a2 ∧ law_Route_l2 hy r_ x_v20 x_v21 = some x) n ?_ ?_
    ·
     exact Exists.intro ([] : List Bus) ⟨0, none, 0, ([]), _, _, rfl, fa.kp, gz, (Heap.le_refl _), er, dj⟩
    ·
     rintro b4 _ eb ⟨x_v20, x_v21, ab, ac, a2, de, bh, rfl, fc, bj, bp, bx, al⟩
     clear dj
     obtain _ | b4 := b4
     ·
      rw [law_Route_l2] at al; cases al
     rw [law_Route_l2] at al
     replace az := az.mono bp
     replace av := av.mono bp
     replace am := am.mono bp
     replace bi := bi.mono bp
     refine wp_seq (wp_seq (wp_region_from (Rk 0 5 ((tB 41 (decide (x_v21 < ((r_.buses.length : Nat) : Int)))) :: (tI 5 x_v21) :: K15m18) fc bj fun jg ch => ?_)))
     refine wf (wC (decide (x_v21 < ((r_.buses.length : Nat) : Int))) ch (fun b9 => ?_) (fun b9 => ?_))
     ·
      rw [b9, cond_true] at al
      refine wp_skip (wp_seq (wp_block (wp_region_G (by kernel_rfl) ?_)))
      replace bj := bj.drew
      refine wpG_of_D [] [(a, 0), (d, 0), (e, 0)] [⟨(K15c16 s r_ u l p m q), some 28⟩, ⟨K15c10, some 43⟩, ⟨(K15c13 g f k x9 ab x_v20 ac r_), some 43⟩] ?_
      refine Dr [0, 1, 2, 3, 4] (dn 4) ((tI 48 x_v21) :: (tS 47 l r_.buses.length p) :: (K15m20 ab x_v20 ac x_v21)) ch bj fun jh fd => ?_
      obtain ⟨x49, ex49, al⟩ := bnd al
      obtain ⟨g4, g9, ht⟩ := idx_some ex49
      obtain ⟨an, aq, i8, ek, hn, es⟩ := av.get (by decide) ht
      obtain ⟨_, _, rfl, rfl, ⟨_, _, rfl, rfl, rfl⟩⟩ := hn
      have cr : Mem ⟨w, h, noX⟩ bh [(a, 0), (d, 0), (e, 0), (an, aq + (x_v21 : Int).toNat * 3)] [⟨(K15c16 s r_ u l p m q), some 28⟩, ⟨K15c10, some 43⟩, ⟨(K15c13 g f k x9 ab x_v20 ac r_), some 43⟩, ⟨(K15c5 x49), none⟩] [⟨g, f.length, k, 39, 2, aa, 0⟩, ⟨ab, x_v20.length, ac, 96, 3, a2, 0⟩] (World.drew eb) := bj.addPlc (cs := (K15c5 x49)) (fun j c hj => es j _ (map_get hj)) rfl (by kernel_rfl) (by kernel_rfl)
      refine D_index 5 (x_v21) (K15c5 x49) (fun _ _ _ _ _ h => h) rfl rfl (rfl) rfl (by decide) (by kernel_rfl) (by kernel_rfl) fd bj.plOk (by rfl) (by rfl) (by rfl) ek (by rfl) g4 g9 (by kernel_rfl) fun h4 (fe : Kn 89 [(a, 0), (d, 0), (e, 0), (an, aq + (x_v21 : Int).toNat * 3)] ((tP 49 3 0) :: (tI 48 x_v21) :: (tS 47 l r_.buses.length p) :: (K15m20 ab x_v20 ac x_v21)) h4) => ?_
      refine Dr [6, 7, 8, 9, 10] (dn 10) ((tI 54 x_v21) :: (tS 53 l r_.buses.length p) :: (tI 51 x49.stop) :: (K15m20 ab x_v20 ac x_v21)) fe cr fun ji ff => ?_
      obtain ⟨x55, ex55, al⟩ := bnd al
      obtain ⟨g5, ha, hu⟩ := idx_some ex55
      obtain ⟨ax, a0, i9, el, ho, et⟩ := av.get (by decide) hu
      obtain ⟨_, _, rfl, rfl, ⟨_, _, rfl, rfl, rfl⟩⟩ := ho
      have ct : Mem ⟨w, h, noX⟩ bh (K15e8 a d e an aq x_v21 ax a0) [⟨(K15c16 s r_ u l p m q), some 28⟩, ⟨K15c10, some 43⟩, ⟨(K15c13 g f k x9 ab x_v20 ac r_), some 43⟩, ⟨(K15c5 x49), none⟩, ⟨(K15c6 x55), none⟩] [⟨g, f.length, k, 39, 2, aa, 0⟩, ⟨ab, x_v20.length, ac, 96, 3, a2, 0⟩] (World.drew eb) := cr.addPlc (cs := (K15c6 x55)) (fun j c hj => et j _ (map_get hj)) rfl (by kernel_rfl) (by kernel_rfl)
      refine D_index 11 (x_v21) (K15c6 x55) (fun _ _ _ _ _ h => h) rfl rfl (rfl) rfl (by decide) (by kernel_rfl) (by kernel_rfl) ff cr.plOk (by rfl) (by rfl) (by rfl) el (by rfl) g5 ha (by kernel_rfl) fun h5 (fg : Kn 89 (K15e8 a d e an aq x_v21 ax a0) ((tP 55 4 0) :: (tI 54 x_v21) :: (tS 53 l r_.buses.length p) :: (tI 51 x49.stop) :: (K15m20 ab x_v20 ac x_v21)) h5) => ?_
      refine Dr [12, 13] (dn 13) ((tA 57 [.int .i64 x55.tm.lo, .int .i64 x55.tm.hi]) :: (tI 51 x49.stop) :: (K15m20 ab x_v20 ac x_v21)) fg ct fun jj fh => ?_
      obtain ⟨x58, ex58, al⟩ := bnd al
      refine Dl 14 fun K hK => ?_
      refine wc [.agg [.int .i64 x55.tm.lo, .int .i64 x55.tm.hi]] fh ct (law_to_ok b4 ct.has x55.tm ((rep_pair rep_int rep_int) : rep bh x55.tm _) ex58) fun jy bm j2 ef dv cu => ?_
      replace bx := bx.mono dv
      obtain ⟨_, rfl, ⟨_, _, rfl, rfl, rfl⟩⟩ := ef
      refine ⟨.one (.agg [.int .i64 x58.lo, .int .i64 x58.hi]), rfl, fun h6 (fj : Kn 89 (K15e8 a d e an aq x_v21 ax a0) ((tA 58 [.int .i64 x58.lo, .int .i64 x58.hi]) :: (tA 57 [.int .i64 x55.tm.lo, .int .i64 x55.tm.hi]) :: (tI 51 x49.stop) :: (K15m20 ab x_v20 ac x_v21)) h6) => hK _ _ cu.plOk ?_⟩
      refine Dr [15] (dn 15) ((tA 59 [.int .i64 x49.stop, .int .i64 x58.lo, .int .i64 x58.hi]) :: (K15m20 ab x_v20 ac x_v21)) fj cu fun jk fk => ?_
      refine Dl 16 fun K hK => ?_
      refine wS 96 3 [.int .i64 x49.stop, .int .i64 x58.lo, .int .i64 x58.hi] fk cu fun bq h7 ix (fl : Kn 89 (K15e8 a d e an aq x_v21 ax a0) ((tS 60 bq 1 1) :: (tA 59 [.int .i64 x49.stop, .int .i64 x58.lo, .int .i64 x58.hi]) :: (K15m20 ab x_v20 ac x_v21)) h7) (cv : Mem ⟨w, h, noX⟩ bm (K15e8 a d e an aq x_v21 ax a0) [⟨(K15c16 s r_ u l p m q), some 28⟩, ⟨K15c10, some 43⟩, ⟨(K15c13 g f k x9 ab x_v20 ac r_), some 43⟩, ⟨(K15c5 x49), none⟩, ⟨(K15c6 x55), none⟩] [⟨g, f.length, k, 39, 2, aa, 0⟩, ⟨ab, x_v20.length, ac, 96, 3, a2, 0⟩, ⟨bq, 1, 1, 96, 3, ([.int .i64 x49.stop, .int .i64 x58.lo, .int .i64 x58.hi] : List Value), 0⟩] ix) => ?_
      have cd : Cells bm ([(Bus.mk x49.stop x58)] : List Bus) ([.int .i64 x49.stop, .int .i64 x58.lo, .int .i64 x58.hi] : List Value) := ⟨_, _, rfl, ((rep_pair rep_int (rep_pair rep_int rep_int)) : rep bm ((Bus.mk x49.stop x58) : Bus) _), rfl⟩
      refine hK _ _ cv.plOk ?_
      obtain ⟨x61, ex61, al⟩ := bnd al
      obtain ⟨c9, gu⟩ := app_some ex61
      refine Dl 17 fun K hK => ?_
      refine wp_append 1 24 1 _ (x61.length) _ ([.int .i64 x49.stop, .int .i64 x58.lo, .int .i64 x58.hi] : List Value) fl cv rfl rfl (by decide) rfl (by rfl) (by kernel_rfl) (by rfl) (by rfl) (Cells.len cd) (cv.rowCell (i := 2) rfl) cd.one (by rw [c9]; simp) (by rw [c9]; exact gu) (by decide) fun a7 bb dp h8 iy e2 (fn : Kn 89 (K15e8 a d e an aq x_v21 ax a0) ((tS 61 a7 x61.length bb) :: (tS 60 bq 1 1) :: (tA 59 [.int .i64 x49.stop, .int .i64 x58.lo, .int .i64 x58.hi]) :: (K15m20 ab x_v20 ac x_v21)) h8) (cw : Mem ⟨w, h, noX⟩ bm (K15e8 a d e an aq x_v21 ax a0) [⟨(K15c16 s r_ u l p m q), some 28⟩, ⟨K15c10, some 43⟩, ⟨(K15c13 g f k x9 ab x_v20 ac r_), some 43⟩, ⟨(K15c5 x49), none⟩, ⟨(K15c6 x55), none⟩] [⟨g, f.length, k, 39, 2, aa, 0⟩, ⟨a7, x61.length, bb, 96, 3, (a2 ++ ([.int .i64 x49.stop, .int .i64 x58.lo, .int .i64 x58.hi] : List Value)), dp⟩, ⟨bq, 1, 1, 96, 3, ([.int .i64 x49.stop, .int .i64 x58.lo, .int .i64 x58.hi] : List Value), 0⟩] iy) => ?_
      have eu : Cells bm x61 (a2 ++ ([.int .i64 x49.stop, .int .i64 x58.lo, .int .i64 x58.hi] : List Value)) := by rw [c9]; exact Cells.append bx cd
      obtain rfl : dp = 0 := Nat.le_zero.1 e2
      refine hK _ _ cw.plOk ?_
      refine Dr [18] (dn 18) ((tP 62 2 3) :: (tS 61 a7 x61.length bb) :: (tI 5 x_v21) :: K15m18) fn cw fun h9 fo => ?_
      refine D_sync 19 rfl (by kernel_rfl) (by decide) (rfl) (by kernel_rfl) fun K hK => ?_
      refine wst 2 3 (.c (.slice a7 x61.length bb)) [.slice g f.length k, .int .i64 x9.lo, .int .i64 x9.hi, .slice a7 x61.length bb, .slice none 0 0, .int .i64 r_.unit, .int .i64 r_.gap, .int .i64 r_.fr, .int .i64 r_.to_] fo cw fun iz fp (d0 : Mem ⟨w, h, noX⟩ bm (K15e8 a d e an aq x_v21 ax a0) [⟨(K15c16 s r_ u l p m q), some 28⟩, ⟨K15c10, some 43⟩, ⟨[.slice g f.length k, .int .i64 x9.lo, .int .i64 x9.hi, .slice a7 x61.length bb, .slice none 0 0, .int .i64 r_.unit, .int .i64 r_.gap, .int .i64 r_.fr, .int .i64 r_.to_], some 43⟩, ⟨(K15c5 x49), none⟩, ⟨(K15c6 x55), none⟩] [⟨g, f.length, k, 39, 2, aa, 0⟩, ⟨a7, x61.length, bb, 96, 3, (a2 ++ ([.int .i64 x49.stop, .int .i64 x58.lo, .int .i64 x58.hi] : List Value)), 0⟩, ⟨bq, 1, 1, 96, 3, ([.int .i64 x49.stop, .int .i64 x58.lo, .int .i64 x58.hi] : List Value), 0⟩] iz) => hK _ _ ?_
      have fq : Kn 89 (K15e8 a d e an aq x_v21 ax a0) ((tI 5 x_v21) :: K15m18) h9 := fp.kp
      refine wpG_end (by kernel_rfl) (wp_region_from (Rk 0 3 ((tI 5 (IntKind.i64.wrap (x_v21 + 1))) :: K15m18) fq d0 fun jl fs => ?_))
      refine wf ?_
      exact Exists.intro b4 ⟨Nat.lt_succ_self _, Exists.intro x61 ⟨(IntKind.i64.wrap (x_v21 + 1)), a7, bb, (a2 ++ ([.int .i64 x49.stop, .int .i64 x58.lo, .int .i64 x58.hi] : List Value)), _, _, rfl, ((fs.keep [5, 3, 2, 1] (by rfl)).cut 3 (by kernel_rfl)), ((d0.cutRw 2).cutPl 3 (by kernel_rfl)), (Heap.le_trans bp dv), eu, al⟩⟩
     ·
      rw [b9, cond_false] at al
      refine wp_exit ?_
      obtain rfl := Option.some.inj al
      exact Exists.intro ab ⟨ac, a2, _, _, rfl, ch.kp, bj, bp, bx⟩
   ·
    rintro _ i0 ⟨y, z, ak, dd, bd, rfl, ft, d1, b0, cc⟩
    replace az := az.mono b0
    replace av := av.mono b0
    replace am := am.mono b0
    replace bi := bi.mono b0
    refine wp_seq (wp_seq (wp_region_from (Rk 0 1 ((tI 6 0) :: K15m18) ft d1 fun jm fv => ?_)))
    refine wf ?_
    have g1 : Mem ⟨w, h, noX⟩ bd [(a, 0), (d, 0), (e, 0)] [⟨(K15c16 s r_ u l p m q), some 28⟩, ⟨K15c10, some 43⟩, ⟨[.slice g f.length k, .int .i64 x9.lo, .int .i64 x9.hi, .slice y x.length z, .slice none 0 0, .int .i64 r_.unit, .int .i64 r_.gap, .int .i64 r_.fr, .int .i64 r_.to_], some 43⟩] [⟨g, f.length, k, 39, 2, aa, 0⟩, ⟨y, x.length, z, 96, 3, ak, 0⟩, ⟨none, 0, 0, 110, 2, [], 0⟩] i0 := d1.nilRow 110 2
    have ev : Cells bd ([] : List Spare) [] := Cells.nil
    obtain ⟨ad, dk, H⟩ := bnd H
    refine wp_mid' (fun a' w' => ∃ (ae : Option Addr) (af : Nat) (bg : List Value) (df : Array Value) (bu : Heap), a' = ⟨df, []⟩ ∧ Kn 89 [(a, 0), (d, 0), (e, 0)] [(tP 3 2 0), (tP 2 1 0)] df ∧ Mem ⟨w, h, noX⟩ bu [(a, 0), (d, 0), (e, 0)] [⟨(K15c16 s r_ u l p m q), some 28⟩, ⟨K15c10, some 43⟩, ⟨(K15c14 g f k x9 y x z ae ad af r_), some 43⟩] [⟨g, f.length, k, 39, 2, aa, 0⟩, ⟨y, x.length, z, 96, 3, ak, 0⟩, ⟨ae, ad.length, af, 110, 2, bg, 0⟩] w' ∧ Heap.le bd bu ∧ Cells bu ad bg) ?_ ?_
    ·
     refine wp_block ?_
     refine wp_loop_n (fun hz a' w' => ∃ (x_v30 : List Spare) (x_v31 : Int) (ag : Option Addr) (ah : Nat) (a3 : List Value) (dg : Array Value) (au : Heap), a' = ⟨dg, []⟩ ∧ Kn 89 [(a, 0), (d, 0), (e, 0)] ((tI 6 x_v31) :: K15m18) dg ∧ Mem ⟨w, h, noX⟩ au [(a, 0), (d, 0), (e, 0)] [⟨(K15c16 s r_ u l p m q), some 28⟩, ⟨K15c10, some 43⟩, ⟨(K15c15 g f k x9 y x z ag x_v30 ah r_), some 43⟩] [⟨g, f.length, k, 39, 2, aa, 0⟩, ⟨y, x.length, z, 96, 3, ak, 0⟩, ⟨ag, x_v30.length, ah, 110, 2, a3, 0⟩] w' ∧ Heap.le bd au ∧ Cells au x_v30 a3 ∧ law_Route_l3 hz r_ x_v30 x_v31 = some ad) n ?_ ?_
     ·
      exact Exists.intro ([] : List Spare) ⟨0, none, 0, ([]), _, _, rfl, fv.kp, g1, (Heap.le_refl _), ev, dk⟩
     ·
      rintro dc _ ed ⟨x_v30, x_v31, ag, ah, a3, dg, au, rfl, fw, bk, cl, dt, ao⟩
      clear dk
      obtain _ | dc := dc
      ·
       rw [law_Route_l3] at ao; cases ao
      rw [law_Route_l3] at ao
      replace am := am.mono cl
      refine wp_seq (wp_seq (wp_region_from (Rk 0 5 ((tB 67 (decide (x_v31 < ((r_.spares.length : Nat) : Int)))) :: (tI 6 x_v31) :: K15m18) fw bk fun jn ci => ?_)))
      refine wf (wC (decide (x_v31 < ((r_.spares.length : Nat) : Int))) ci (fun ca => ?_) (fun ca => ?_))
      ·
       rw [ca, cond_true] at ao
       refine wp_skip (wp_seq (wp_block (wp_region_G (by kernel_rfl) ?_)))
       replace bk := bk.drew
       refine wpG_of_D [] [(a, 0), (d, 0), (e, 0)] [⟨(K15c16 s r_ u l p m q), some 28⟩, ⟨K15c10, some 43⟩, ⟨(K15c15 g f k x9 y x z ag x_v30 ah r_), some 43⟩] ?_
       refine Dr [0, 1, 2, 3, 4] (dn 4) ((tI 74 x_v31) :: (tS 73 m r_.spares.length q) :: (tS 71 ag x_v30.length ah) :: (tI 6 x_v31) :: K15m18) ci bk fun jo fx => ?_
       obtain ⟨x75, ex75, ao⟩ := bnd ao
       obtain ⟨g6, hb, hv⟩ := idx_some ex75
       obtain ⟨ar, aw, ja, em, hq, ew⟩ := am.get (by decide) hv
       obtain ⟨_, _, rfl, rfl, rfl⟩ := hq
       have cy : Mem ⟨w, h, noX⟩ au [(a, 0), (d, 0), (e, 0), (ar, aw + (x_v31 : Int).toNat * 2)] [⟨(K15c16 s r_ u l p m q), some 28⟩, ⟨K15c10, some 43⟩, ⟨(K15c15 g f k x9 y x z ag x_v30 ah r_), some 43⟩, ⟨(K15c2 x75), none⟩] [⟨g, f.length, k, 39, 2, aa, 0⟩, ⟨y, x.length, z, 96, 3, ak, 0⟩, ⟨ag, x_v30.length, ah, 110, 2, a3, 0⟩] (World.drew ed) := bk.addPlc (cs := (K15c2 x75)) (fun j c hj => ew j _ (map_get hj)) rfl (by kernel_rfl) (by kernel_rfl)
       refine D_index 5 (x_v31) (K15c2 x75) (fun _ _ _ _ _ h => h) rfl rfl (rfl) rfl (by decide) (by kernel_rfl) (by kernel_rfl) fx bk.plOk (by rfl) (by rfl) (by rfl) em (by rfl) g6 hb (by kernel_rfl) fun ib (fy : Kn 89 [(a, 0), (d, 0), (e, 0), (ar, aw + (x_v31 : Int).toNat * 2)] ((tP 75 3 0) :: (tI 74 x_v31) :: (tS 73 m r_.spares.length q) :: (tS 71 ag x_v30.length ah) :: (tI 6 x_v31) :: K15m18) ib) => ?_
       refine Dr [6, 7, 8, 9, 10] (dn 10) ((tI 80 x_v31) :: (tS 79 m r_.spares.length q) :: (tI 77 x75.stop) :: (tS 71 ag x_v30.length ah) :: (tI 6 x_v31) :: K15m18) fy cy fun jp fz => ?_
       obtain ⟨x81, ex81, ao⟩ := bnd ao
       obtain ⟨g7, hc, hw⟩ := idx_some ex81
       obtain ⟨a4, a5, jb, en, hr, ex⟩ := am.get (by decide) hw
       obtain ⟨_, _, rfl, rfl, rfl⟩ := hr
       have d2 : Mem ⟨w, h, noX⟩ au (K15e9 a d e ar aw x_v31 a4 a5) [⟨(K15c16 s r_ u l p m q), some 28⟩, ⟨K15c10, some 43⟩, ⟨(K15c15 g f k x9 y x z ag x_v30 ah r_), some 43⟩, ⟨(K15c2 x75), none⟩, ⟨(K15c3 x81), none⟩] [⟨g, f.length, k, 39, 2, aa, 0⟩, ⟨y, x.length, z, 96, 3, ak, 0⟩, ⟨ag, x_v30.length, ah, 110, 2, a3, 0⟩] (World.drew ed) := cy.addPlc (cs := (K15c3 x81)) (fun j c hj => ex j _ (map_get hj)) rfl (by kernel_rfl) (by kernel_rfl)
       refine D_index 11 (x_v31) (K15c3 x81) (fun _ _ _ _ _ h => h) rfl rfl (rfl) rfl (by decide) (by kernel_rfl) (by kernel_rfl) fz cy.plOk (by rfl) (by rfl) (by rfl) en (by rfl) g7 hc (by kernel_rfl) fun ic (f0 : Kn 89 (K15e9 a d e ar aw x_v31 a4 a5) ((tP 81 4 0) :: (tI 80 x_v31) :: (tS 79 m r_.spares.length q) :: (tI 77 x75.stop) :: (tS 71 ag x_v30.length ah) :: (tI 6 x_v31) :: K15m18) ic) => ?_
       refine Dr [12, 13, 14] (dn 14) ((tA 84 [.int .i64 x75.stop, .int .i64 x81.tm]) :: (tS 71 ag x_v30.length ah) :: (tI 6 x_v31) :: K15m18) f0 d2 fun jq f1 => ?_
       refine Dl 15 fun K hK => ?_
       refine wS 110 2 [.int .i64 x75.stop, .int .i64 x81.tm] f1 d2 fun br ie i1 (f2 : Kn 89 (K15e9 a d e ar aw x_v31 a4 a5) ((tS 85 br 1 1) :: (tA 84 [.int .i64 x75.stop, .int .i64 x81.tm]) :: (tS 71 ag x_v30.length ah) :: (tI 6 x_v31) :: K15m18) ie) (cz : Mem ⟨w, h, noX⟩ au (K15e9 a d e ar aw x_v31 a4 a5) [⟨(K15c16 s r_ u l p m q), some 28⟩, ⟨K15c10, some 43⟩, ⟨(K15c15 g f k x9 y x z ag x_v30 ah r_), some 43⟩, ⟨(K15c2 x75), none⟩, ⟨(K15c3 x81), none⟩] [⟨g, f.length, k, 39, 2, aa, 0⟩, ⟨y, x.length, z, 96, 3, ak, 0⟩, ⟨ag, x_v30.length, ah, 110, 2, a3, 0⟩, ⟨br, 1, 1, 110, 2, ([.int .i64 x75.stop, .int .i64 x81.tm] : List Value), 0⟩] i1) => ?_
       have cf : Cells au ([(Spare.mk x75.stop x81.tm)] : List Spare) ([.int .i64 x75.stop, .int .i64 x81.tm] : List Value) := ⟨_, _, rfl, ((rep_pair rep_int rep_int) : rep au ((Spare.mk x75.stop x81.tm) : Spare) _), rfl⟩
       refine hK _ _ cz.plOk ?_
       obtain ⟨x86, ex86, ao⟩ := bnd ao
       obtain ⟨da, gv⟩ := app_some ex86
       refine Dl 16 fun K hK => ?_
       refine wp_append 2 16 1 _ (x86.length) _ ([.int .i64 x75.stop, .int .i64 x81.tm] : List Value) f2 cz rfl rfl (by decide) rfl (by rfl) (by kernel_rfl) (by rfl) (by rfl) (Cells.len cf) (cz.rowCell (i := 3) rfl) cf.one (by rw [da]; simp) (by rw [da]; exact gv) (by decide) fun a8 bc dq ig i2 e3 (f3 : Kn 89 (K15e9 a d e ar aw x_v31 a4 a5) ((tS 86 a8 x86.length bc) :: (tS 85 br 1 1) :: (tA 84 [.int .i64 x75.stop, .int .i64 x81.tm]) :: (tS 71 ag x_v30.length ah) :: (tI 6 x_v31) :: K15m18) ig) (c0 : Mem ⟨w, h, noX⟩ au (K15e9 a d e ar aw x_v31 a4 a5) [⟨(K15c16 s r_ u l p m q), some 28⟩, ⟨K15c10, some 43⟩, ⟨(K15c15 g f k x9 y x z ag x_v30 ah r_), some 43⟩, ⟨(K15c2 x75), none⟩, ⟨(K15c3 x81), none⟩] [⟨g, f.length, k, 39, 2, aa, 0⟩, ⟨y, x.length, z, 96, 3, ak, 0⟩, ⟨a8, x86.length, bc, 110, 2, (a3 ++ ([.int .i64 x75.stop, .int .i64 x81.tm] : List Value)), dq⟩, ⟨br, 1, 1, 110, 2, ([.int .i64 x75.stop, .int .i64 x81.tm] : List Value), 0⟩] i2) => ?_
       have ey : Cells au x86 (a3 ++ ([.int .i64 x75.stop, .int .i64 x81.tm] : List Value)) := by rw [da]; exact Cells.append dt cf
       obtain rfl : dq = 0 := Nat.le_zero.1 e3
       refine hK _ _ c0.plOk ?_
       refine Dr [17] (dn 17) ((tP 87 2 4) :: (tS 86 a8 x86.length bc) :: (tI 6 x_v31) :: K15m18) f3 c0 fun ih f4 => ?_
       refine D_sync 18 rfl (by kernel_rfl) (by decide) (rfl) (by kernel_rfl) fun K hK => ?_
       refine wst 2 4 (.c (.slice a8 x86.length bc)) [.slice g f.length k, .int .i64 x9.lo, .int .i64 x9.hi, .slice y x.length z, .slice a8 x86.length bc, .int .i64 r_.unit, .int .i64 r_.gap, .int .i64 r_.fr, .int .i64 r_.to_] f4 c0 fun i3 f5 (d3 : Mem ⟨w, h, noX⟩ au (K15e9 a d e ar aw x_v31 a4 a5) [⟨(K15c16 s r_ u l p m q), some 28⟩, ⟨K15c10, some 43⟩, ⟨[.slice g f.length k, .int .i64 x9.lo, .int .i64 x9.hi, .slice y x.length z, .slice a8 x86.length bc, .int .i64 r_.unit, .int .i64 r_.gap, .int .i64 r_.fr, .int .i64 r_.to_], some 43⟩, ⟨(K15c2 x75), none⟩, ⟨(K15c3 x81), none⟩] [⟨g, f.length, k, 39, 2, aa, 0⟩, ⟨y, x.length, z, 96, 3, ak, 0⟩, ⟨a8, x86.length, bc, 110, 2, (a3 ++ ([.int .i64 x75.stop, .int .i64 x81.tm] : List Value)), 0⟩, ⟨br, 1, 1, 110, 2, ([.int .i64 x75.stop, .int .i64 x81.tm] : List Value), 0⟩] i3) => hK _ _ ?_
       have f7 : Kn 89 (K15e9 a d e ar aw x_v31 a4 a5) ((tI 6 x_v31) :: K15m18) ih := f5.kp
       refine wpG_end (by kernel_rfl) (wp_region_from (Rk 0 3 ((tI 6 (IntKind.i64.wrap (x_v31 + 1))) :: K15m18) f7 d3 fun jr f8 => ?_))
       refine wf ?_
       exact Exists.intro dc ⟨Nat.lt_succ_self _, Exists.intro x86 ⟨(IntKind.i64.wrap (x_v31 + 1)), a8, bc, (a3 ++ ([.int .i64 x75.stop, .int .i64 x81.tm] : List Value)), _, _, rfl, ((f8.keep [6, 3, 2, 1] (by rfl)).cut 3 (by kernel_rfl)), ((d3.cutRw 3).cutPl 3 (by kernel_rfl)), cl, ey, ao⟩⟩
      ·
       rw [ca, cond_false] at ao
       refine wp_exit ?_
       obtain rfl := Option.some.inj ao
       exact Exists.intro ag ⟨ah, a3, _, _, rfl, ci.kp, bk, cl, dt⟩
    ·
     rintro _ j4 ⟨ae, af, bg, df, bu, rfl, f9, d4, dw, ce⟩
     refine wp_seq (wp_region_from (Rk 0 1 [(tA 88 (K15c14 g f k x9 y x z ae ad af r_)), (tP 2 1 0)] f9 d4 fun ii ga => ?_))
     refine wl fun K hK => ?_
     refine wst 1 0 (.agg (K15c14 g f k x9 y x z ae ad af r_)) (K15c14 g f k x9 y x z ae ad af r_) ga d4 fun b7 gb (d5 : Mem ⟨w, h, noX⟩ bu [(a, 0), (d, 0), (e, 0)] [⟨(K15c16 s r_ u l p m q), some 28⟩, ⟨(K15c14 g f k x9 y x z ae ad af r_), some 43⟩, ⟨(K15c14 g f k x9 y x z ae ad af r_), some 43⟩] [⟨g, f.length, k, 39, 2, aa, 0⟩, ⟨y, x.length, z, 96, 3, ak, 0⟩, ⟨ae, ad.length, af, 110, 2, bg, 0⟩] b7) => hK _ _ ?_
     have gc : Kn 89 [(a, 0), (d, 0), (e, 0)] [(tP 2 1 0)] ii := gb.kp
     refine wf (wp_ret ?_)
     obtain ⟨dr, cm, hf, b2⟩ := d5.settle (i := 0) rfl
     replace bi := bi.mono (Heap.le_trans dw cm)
     replace b2 : Mem ⟨w, h, noX⟩ dr [(a, 0), (d, 0), (e, 0)] [⟨(K15c16 s r_ u l p m q), some 28⟩, ⟨(K15c14 g f k x9 y x z ae ad af r_), some 43⟩, ⟨(K15c14 g f k x9 y x z ae ad af r_), some 43⟩] [⟨g, f.length, k, 39, 2, aa, (aa : List Value).length⟩, ⟨y, x.length, z, 96, 3, ak, 0⟩, ⟨ae, ad.length, af, 110, 2, bg, 0⟩] b7 := b2
     have c7 : RepS dr g k f := ⟨_, bi, hf, d5.rowCap (i := 0) rfl⟩
     obtain ⟨ds, co, hg, b3⟩ := b2.settle (i := 1) rfl
     replace cc := cc.mono (Heap.le_trans (Heap.le_trans dw cm) co)
     replace b3 : Mem ⟨w, h, noX⟩ ds [(a, 0), (d, 0), (e, 0)] [⟨(K15c16 s r_ u l p m q), some 28⟩, ⟨(K15c14 g f k x9 y x z ae ad af r_), some 43⟩, ⟨(K15c14 g f k x9 y x z ae ad af r_), some 43⟩] [⟨g, f.length, k, 39, 2, aa, (aa : List Value).length⟩, ⟨y, x.length, z, 96, 3, ak, (ak : List Value).length⟩, ⟨ae, ad.length, af, 110, 2, bg, 0⟩] b7 := b3
     have c8 : RepS ds y z x := ⟨_, cc, hg, b2.rowCap (i := 1) rfl⟩
     obtain ⟨b8, cp, hl, c1⟩ := b3.settle (i := 2) rfl
     replace c7 := c7.mono (Heap.le_trans co cp)
     replace c8 := c8.mono cp
     replace ce := ce.mono (Heap.le_trans (Heap.le_trans cm co) cp)
     replace c1 : Mem ⟨w, h, noX⟩ b8 [(a, 0), (d, 0), (e, 0)] [⟨(K15c16 s r_ u l p m q), some 28⟩, ⟨(K15c14 g f k x9 y x z ae ad af r_), some 43⟩, ⟨(K15c14 g f k x9 y x z ae ad af r_), some 43⟩] [⟨g, f.length, k, 39, 2, aa, (aa : List Value).length⟩, ⟨y, x.length, z, 96, 3, ak, (ak : List Value).length⟩, ⟨ae, ad.length, af, 110, 2, bg, (bg : List Value).length⟩] b7 := c1
     have he : RepS b8 ae af ad := ⟨_, ce, hl, b3.rowCap (i := 2) rfl⟩
     obtain rfl := Option.some.inj H
     exact rt (.one (.agg (K15c14 g f k x9 y x z ae ad af r_))) gc c1 ⟨_, rfl, ((rep_pair (rep_slice c7) (rep_pair (rep_pair rep_int rep_int) (rep_pair (rep_slice c8) (rep_pair (rep_slice he) (rep_pair rep_int (rep_pair rep_int (rep_pair rep_int rep_int))))))) : rep b8 ((Route.mk f x9 x ad r_.unit r_.gap r_.fr r_.to_) : Route) _)⟩
 refine D_two 2 12 rfl rfl (by kernel_rfl) (by decide) (rfl) (rfl) (fun K hK => ?_) (fun K hK => ?_)
 ·
  refine wc [.agg (K15c4 r_)] du cx (law_to_ok n cx.has r_.turn ((rep_pair rep_int rep_int) : rep h r_.turn _) ex9) fun jz ej j5 eg gx c2 => ?_
  obtain ⟨_, rfl, ⟨_, _, rfl, rfl, rfl⟩⟩ := eg
  refine ⟨.one (.agg [.int .i64 x9.lo, .int .i64 x9.hi]), rfl, fun ij (gd : Kn 89 [(a, 0), (d, 0), (0, 0)] ((tA 9 [.int .i64 x9.lo, .int .i64 x9.hi]) :: (K15m19 r_)) ij) => hK _ _ c2.plOk ?_⟩
  refine Dr [11] [11, 2, 10, 9, 8, 7, 6, 5, 4, 3, 1, 0] [(tA 18 (K15c11 x9 r_)), (tP 2 1 0), (tP 1 0 0)] gd c2 fun js gf => ?_
  refine Dl 12 fun K hK => ?_
  refine waA 2 K15c10 gf c2 fun bw ik i4 (gh : Kn 89 [(a, 0), (d, 0), (bw, 0)] [(tP 3 2 0), (tA 18 (K15c11 x9 r_)), (tP 2 1 0), (tP 1 0 0)] ik) (d6 : Mem ⟨w, h, noX⟩ ej [(a, 0), (d, 0), (bw, 0)] (K15p17 s r_ u l p m q) [] i4) => hK _ _ (PlOk.unset 2 rfl (by kernel_rfl) d6.plOk) (D_ext (e' := [(a, 0), (d, 0), (bw, 0)]) (pl' := (K15p17 s r_ u l p m q)) (fun _ hp => hp.unset 2 rfl (by kernel_rfl)) ?_)
  refine D_perm [11, 2, 12, 10, 9, 8, 7, 6, 5, 4, 3, 1, 0] (by kernel_rfl) (by rfl) (d9 bw _ _ ?_)
  exact Exists.intro _ ⟨_, rfl, gh.kp, d6, gx⟩
 ·
  refine waA 2 K15c10 du cx fun bt il i5 (gi : Kn 89 [(a, 0), (d, 0), (bt, 0)] ((tP 3 2 0) :: (K15m19 r_)) il) (c3 : Mem ⟨w, h, noX⟩ h [(a, 0), (d, 0), (bt, 0)] (K15p17 s r_ u l p m q) [] i5) => hK _ _ (PlOk.unset 2 rfl (by kernel_rfl) c3.plOk) (D_ext (e' := [(a, 0), (d, 0), (bt, 0)]) (pl' := (K15p17 s r_ u l p m q)) (fun _ hp => hp.unset 2 rfl (by kernel_rfl)) ?_)
  refine Dl 2 fun K hK => ?_
  refine wc [.agg (K15c4 r_)] gi c3 (law_to_ok n c3.has r_.turn ((rep_pair rep_int rep_int) : rep h r_.turn _) ex9) fun j0 jd j6 eh gy c4 => ?_
  obtain ⟨_, rfl, ⟨_, _, rfl, rfl, rfl⟩⟩ := eh
  refine ⟨.one (.agg [.int .i64 x9.lo, .int .i64 x9.hi]), rfl, fun im (gj : Kn 89 [(a, 0), (d, 0), (bt, 0)] ((tA 9 [.int .i64 x9.lo, .int .i64 x9.hi]) :: (tP 3 2 0) :: (K15m19 r_)) im) => hK _ _ c4.plOk ?_⟩
  refine Dr [11] [11, 2, 12, 10, 9, 8, 7, 6, 5, 4, 3, 1, 0] ((tA 18 (K15c11 x9 r_)) :: K15m18) gj c4 fun jt gk => ?_
  refine D_perm [11, 2, 12, 10, 9, 8, 7, 6, 5, 4, 3, 1, 0] (by kernel_rfl) (by rfl) (d9 bt _ _ ?_)
  exact Exists.intro _ ⟨_, rfl, gk.kp, c4, gy⟩
end Go.Proofs.Ytokchpjijlebiaa
