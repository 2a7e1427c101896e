/- Each call computes its plain function. -/
import Derived.Test.YtokchpjijlebiaaProg
import Derived.Test.YtokchpjijlebiaaFwP0
import Derived.Test.YtokchpjijlebiaaFwWA
set_option linter.all false
namespace Go.Proofs.Ytokchpjijlebiaa
open Go Go.RowKit
open Rep (rep)
open KRep (kv)
open VRep (rv)
abbrev K15c1 (x31 : Rg) : List SC := [.int .i64 x31.lo, .int .i64 x31.hi]
abbrev K15c2 (x75 : Spare) : List SC := [.int .i64 x75.stop, .int .i64 x75.tm]
abbrev K15c3 (x81 : Spare) : List SC := [.int .i64 x81.stop, .int .i64 x81.tm]
abbrev K15c4 (r_ : Route) : List SC := [.int .i64 r_.turn.lo, .int .i64 r_.turn.hi]
abbrev K15c5 (x49 : Bus) : List SC := [.int .i64 x49.stop, .int .i64 x49.tm.lo, .int .i64 x49.tm.hi]
abbrev K15c6 (x55 : Bus) : List SC := [.int .i64 x55.stop, .int .i64 x55.tm.lo, .int .i64 x55.tm.hi]
abbrev K15e7 (a b d aw az : Nat) (x_v11 : Int) : Env := [(a, 0), (b, 0), (d, 0), (aw, az + (x_v11 : Int).toNat * 2)]
abbrev K15e8 (a b d al ao : Nat) (x_v21 : Int) (av ay : Nat) : Env := [(a, 0), (b, 0), (d, 0), (al, ao + (x_v21 : Int).toNat * 3), (av, ay + (x_v21 : Int).toNat * 3)]
abbrev K15e9 (a b d ap au : Nat) (x_v31 : Int) (a2 a3 : Nat) : Env := [(a, 0), (b, 0), (d, 0), (ap, au + (x_v31 : Int).toNat * 2), (a2, a3 + (x_v31 : Int).toNat * 2)]
abbrev K15c10 : List SC := [.slice none 0 0, .int .i64 0, .int .i64 0, .slice none 0 0, .slice none 0 0, .int .i64 0, .int .i64 0, .int .i64 0, .int .i64 0]
abbrev K15c11 (x9 : Rg) (r_ : Route) : List SC := [.slice none 0 0, .int .i64 x9.lo, .int .i64 x9.hi, .slice none 0 0, .slice none 0 0, .int .i64 r_.unit, .int .i64 r_.gap, .int .i64 r_.fr, .int .i64 r_.to_]
abbrev K15c12 (ag : Option Addr) (x_v10 : List Rg) (ah : Nat) (x9 : Rg) (r_ : Route) : List SC := [.slice ag x_v10.length ah, .int .i64 x9.lo, .int .i64 x9.hi, .slice none 0 0, .slice none 0 0, .int .i64 r_.unit, .int .i64 r_.gap, .int .i64 r_.fr, .int .i64 r_.to_]
abbrev K15c13 (f : Option Addr) (e : List Rg) (g : Nat) (x9 : Rg) (z : Option Addr) (x_v20 : List Bus) (aa : Nat) (r_ : Route) : List SC := [.slice f e.length g, .int .i64 x9.lo, .int .i64 x9.hi, .slice z x_v20.length aa, .slice none 0 0, .int .i64 r_.unit, .int .i64 r_.gap, .int .i64 r_.fr, .int .i64 r_.to_]
abbrev K15c14 (f : Option Addr) (e : List Rg) (g : Nat) (x9 : Rg) (u : Option Addr) (s : List Bus) (x : Nat) (ac : Option Addr) (ab : List Spare) (ad : Nat) (r_ : Route) : List SC := [.slice f e.length g, .int .i64 x9.lo, .int .i64 x9.hi, .slice u s.length x, .slice ac ab.length ad, .int .i64 r_.unit, .int .i64 r_.gap, .int .i64 r_.fr, .int .i64 r_.to_]
abbrev K15c15 (f : Option Addr) (e : List Rg) (g : Nat) (x9 : Rg) (u : Option Addr) (s : List Bus) (x : Nat) (ae : Option Addr) (x_v30 : List Spare) (af : Nat) (r_ : Route) : List SC := [.slice f e.length g, .int .i64 x9.lo, .int .i64 x9.hi, .slice u s.length x, .slice ae x_v30.length af, .int .i64 r_.unit, .int .i64 r_.gap, .int .i64 r_.fr, .int .i64 r_.to_]
abbrev K15c16 (p : Option Addr) (r_ : Route) (q : Nat) (k : Option Addr) (m : Nat) (l : Option Addr) (o : Nat) : List SC := [.slice p r_.legs.length q, .int .i64 r_.turn.lo, .int .i64 r_.turn.hi, .slice k r_.buses.length m, .slice l r_.spares.length o, .int .i64 r_.unit, .int .i64 r_.gap, .int .i64 r_.fr, .int .i64 r_.to_]
abbrev K15p17 (p : Option Addr) (r_ : Route) (q : Nat) (k : Option Addr) (m : Nat) (l : Option Addr) (o : Nat) : List Plc := [⟨(K15c16 p r_ q k m l o), some 28⟩, ⟨K15c10, some 43⟩, ⟨K15c10, some 43⟩]
abbrev K15m18 : TM := [(tP 3 2 0), (tP 2 1 0), (tP 1 0 0)]
abbrev K15m19 (z : Option Addr) (x_v20 : List Bus) (aa : Nat) (x_v21 : Int) : TM := (tS 45 z x_v20.length aa) :: (tI 5 x_v21) :: K15m18
abbrev K15m20 (r_ : Route) : TM := [(tI 17 r_.to_), (tI 15 r_.fr), (tI 13 r_.gap), (tI 11 r_.unit), (tA 8 (K15c4 r_)), (tP 2 1 0), (tP 1 0 0)]
set_option maxRecDepth 100000 in
set_option maxHeartbeats 4000000 in
theorem law_Route_ok (n : Nat) {h : Heap} {w : World} (hh : Has h w) (r_ : Route) {cs_r_ : List Value} (hx_r_ : rep h r_ cs_r_) {r : Route} (H : law_Route n r_ = some r) :
  Calls Try.prog 15 #[.agg cs_r_.toArray] w (Ret (fun h v => ∃ cs, v = .agg cs.toArray ∧ rep h r cs) h w) := by
 obtain ⟨_, _, rfl, ⟨p, q, rfl, ax⟩, ⟨_, _, rfl, ⟨_, _, rfl, rfl, rfl⟩, ⟨_, _, rfl, ⟨k, m, rfl, ar⟩, ⟨_, _, rfl, ⟨l, o, rfl, ak⟩, ⟨_, _, rfl, rfl, ⟨_, _, rfl, rfl, ⟨_, _, rfl, rfl, rfl⟩⟩⟩⟩⟩⟩⟩ := hx_r_
 refine enter 89 [.agg (K15c16 p r_ q k m l o)] Try.func15 rfl rfl rfl rfl fun t hk => ?_
 have hm := Mem.begin h w hh
 unfold law_Route at H
 refine wp_seq (wp_region_from (wl fun K hK => ?_))
 refine wb (.agg (K15c16 p r_ q k m l o)) hk hm fun a hy io (e7 : Kn 89 [(a, 0)] [(tP 1 0 0), (tA 0 (K15c16 p r_ q k m l o))] hy) (gv : Mem ⟨w, h, noX⟩ h [(a, 0)] [⟨(K15c16 p r_ q k m l o), some 28⟩] [] io) => hK _ _ ?_
 refine wl fun K hK => ?_
 refine wa K15c10 e7 gv fun b d7 ip (fe : Kn 89 [(a, 0), (b, 0)] [(tP 2 1 0), (tP 1 0 0), (tA 0 (K15c16 p r_ q k m l o))] d7) (bo : Mem ⟨w, h, noX⟩ h [(a, 0), (b, 0)] [⟨(K15c16 p r_ q k m l o), some 28⟩, ⟨K15c10, some 43⟩] [] ip) => hK _ _ ?_
 have fi : Kn 89 [(a, 0), (b, 0)] [(tP 2 1 0), (tP 1 0 0)] d7 := fe.kp
 refine wf (wp_seq (wp_region_G (by kernel_rfl) ?_))
 replace bo := bo.drew
 refine wpG_of_D [] [(a, 0), (b, 0)] [⟨(K15c16 p r_ q k m l o), some 28⟩, ⟨K15c10, some 43⟩] ?_
 refine Dr [0, 1, 3, 4, 5, 6, 7, 8, 9, 10] [10, 9, 8, 7, 6, 5, 4, 3, 1, 0] (K15m20 r_) fi bo fun jg dr => ?_
 obtain ⟨x9, ex9, H⟩ := bnd H
 refine D_share (fun W => ∀ (d : Nat), ∀ a' w', (∃ (b4 : Array Value) (bc : Heap), a' = ⟨b4, []⟩ ∧ Kn 89 [(a, 0), (b, 0), (d, 0)] [(tP 3 2 0), (tA 18 (K15c11 x9 r_)), (tP 2 1 0), (tP 1 0 0)] b4 ∧ Mem ⟨w, h, noX⟩ bc [(a, 0), (b, 0), (d, 0)] (K15p17 p r_ q k m l o) [] w' ∧ Heap.le h bc) → W [(a, 0), (b, 0), (d, 0)] (K15p17 p r_ q k m l o) [11, 2, 12, 10, 9, 8, 7, 6, 5, 4, 3, 1, 0] a' w') ?_ (fun d6 => ?_)
 ·
  intro d
  rintro _ jz ⟨b4, bc, rfl, fy, gx, ck⟩
  replace ax := ax.mono ck
  replace ar := ar.mono ck
  replace ak := ak.mono ck
  refine D_sync 13 rfl (by kernel_rfl) (by decide) (rfl) (by kernel_rfl) fun K hK => ?_
  refine wst 2 0 (.agg (K15c11 x9 r_)) (K15c11 x9 r_) fy gx fun ea f8 (d3 : Mem ⟨w, h, noX⟩ bc [(a, 0), (b, 0), (d, 0)] [⟨(K15c16 p r_ q k m l o), some 28⟩, ⟨K15c10, some 43⟩, ⟨(K15c11 x9 r_), some 43⟩] [] ea) => hK _ _ ?_
  refine wpG_of_D [] [(a, 0), (b, 0), (d, 0)] [⟨(K15c16 p r_ q k m l o), some 28⟩, ⟨K15c10, some 43⟩, ⟨(K15c11 x9 r_), some 43⟩] ?_
  have gb : Kn 89 [(a, 0), (b, 0), (d, 0)] K15m18 b4 := f8.kp
  refine wpD_end (by kernel_rfl) (wp_seq (wp_seq (wp_region_from (Rk 0 1 ((tI 4 0) :: K15m18) gb d3 fun jp gh => ?_))))
  refine wf ?_
  have gy : Mem ⟨w, h, noX⟩ bc [(a, 0), (b, 0), (d, 0)] [⟨(K15c16 p r_ q k m l o), some 28⟩, ⟨K15c10, some 43⟩, ⟨(K15c11 x9 r_), some 43⟩] [⟨none, 0, 0, 39, 2, [], 0⟩] ea := d3.nilRow 39 2
  have ev : Cells bc ([] : List Rg) [] := Cells.nil
  obtain ⟨e, di, H⟩ := bnd H
  refine wp_mid' (fun a' w' => ∃ (f : Option Addr) (g : Nat) (y : List Value) (de : Array Value) (bd : Heap), a' = ⟨de, []⟩ ∧ Kn 89 [(a, 0), (b, 0), (d, 0)] K15m18 de ∧ Mem ⟨w, h, noX⟩ bd [(a, 0), (b, 0), (d, 0)] [⟨(K15c16 p r_ q k m l o), some 28⟩, ⟨K15c10, some 43⟩, ⟨[.slice f e.length g, .int .i64 x9.lo, .int .i64 x9.hi, .slice none 0 0, .slice none 0 0, .int .i64 r_.unit, .int .i64 r_.gap, .int .i64 r_.fr, .int .i64 r_.to_], some 43⟩] [⟨f, e.length, g, 39, 2, y, 0⟩] w' ∧ Heap.le bc bd ∧ Cells bd e y) ?_ ?_
  ·
   refine wp_block ?_
   refine wp_loop_n (fun hv a' w' => ∃ (x_v10 : List Rg) (x_v11 : Int) (ag : Option Addr) (ah : Nat) (a4 : List Value) (df : Array Value) (bl : Heap), a' = ⟨df, []⟩ ∧ Kn 89 [(a, 0), (b, 0), (d, 0)] ((tI 4 x_v11) :: K15m18) df ∧ Mem ⟨w, h, noX⟩ bl [(a, 0), (b, 0), (d, 0)] [⟨(K15c16 p r_ q k m l o), some 28⟩, ⟨K15c10, some 43⟩, ⟨(K15c12 ag x_v10 ah x9 r_), some 43⟩] [⟨ag, x_v10.length, ah, 39, 2, a4, 0⟩] w' ∧ Heap.le bc bl ∧ Cells bl x_v10 a4 ∧ law_Route_l1 hv r_ x_v10 x_v11 = some e) n ?_ ?_
   ·
    exact Exists.intro ([] : List Rg) ⟨0, none, 0, ([]), _, _, rfl, gh.kp, gy, (Heap.le_refl _), ev, di⟩
   ·
    rintro b3 _ i1 ⟨x_v10, x_v11, ag, ah, a4, df, bl, rfl, gi, bj, bu, bx, an⟩
    clear di
    obtain _ | b3 := b3
    ·
     rw [law_Route_l1] at an; cases an
    rw [law_Route_l1] at an
    replace ax := ax.mono bu
    replace ar := ar.mono bu
    replace ak := ak.mono bu
    refine wp_seq (wp_seq (wp_region_from (Rk 0 5 ((tB 23 (decide (x_v11 < ((r_.legs.length : Nat) : Int)))) :: (tI 4 x_v11) :: K15m18) gi bj fun jr ch => ?_)))
    refine wf (wC (decide (x_v11 < ((r_.legs.length : Nat) : Int))) ch (fun b9 => ?_) (fun b9 => ?_))
    ·
     rw [b9, cond_true] at an
     refine wp_skip (wp_seq (wp_block (wp_region_G (by kernel_rfl) ?_)))
     replace bj := bj.drew
     refine wpG_of_D [] [(a, 0), (b, 0), (d, 0)] [⟨(K15c16 p r_ q k m l o), some 28⟩, ⟨K15c10, some 43⟩, ⟨(K15c12 ag x_v10 ah x9 r_), some 43⟩] ?_
     refine Dr [0, 1, 2, 3, 4] (dn 4) ((tI 30 x_v11) :: (tS 29 p r_.legs.length q) :: (tS 27 ag x_v10.length ah) :: (tI 4 x_v11) :: K15m18) ch bj fun js gj => ?_
     obtain ⟨x31, ex31, an⟩ := bnd an
     obtain ⟨g3, g8, hs⟩ := idx_some ex31
     obtain ⟨aw, az, i7, ek, hl, ew⟩ := ax.get (by decide) hs
     obtain ⟨_, _, rfl, rfl, rfl⟩ := hl
     have c2 : Mem ⟨w, h, noX⟩ bl (K15e7 a b d aw az x_v11) [⟨(K15c16 p r_ q k m l o), some 28⟩, ⟨K15c10, some 43⟩, ⟨(K15c12 ag x_v10 ah x9 r_), some 43⟩, ⟨(K15c1 x31), none⟩] [⟨ag, x_v10.length, ah, 39, 2, a4, 0⟩] (World.drew i1) := bj.addPlc (cs := (K15c1 x31)) (fun j c hj => ew j _ (map_get hj)) rfl (by kernel_rfl) (by kernel_rfl)
     refine D_index 5 (x_v11) (K15c1 x31) (fun _ _ _ _ _ h => h) rfl rfl (rfl) rfl (by decide) (by kernel_rfl) (by kernel_rfl) gj bj.plOk (by rfl) (by rfl) (by rfl) ek (by rfl) g3 g8 (by kernel_rfl) fun ih (gk : Kn 89 (K15e7 a b d aw az x_v11) ((tP 31 3 0) :: (tI 30 x_v11) :: (tS 29 p r_.legs.length q) :: (tS 27 ag x_v10.length ah) :: (tI 4 x_v11) :: K15m18) ih) => ?_
     refine Dr [6] (dn 6) ((tA 32 (K15c1 x31)) :: (tS 27 ag x_v10.length ah) :: (tI 4 x_v11) :: K15m18) gk c2 fun jt gl => ?_
     obtain ⟨x33, ex33, an⟩ := bnd an
     refine Dl 7 fun K hK => ?_
     refine wc [.agg (K15c1 x31)] gl c2 (law_to_ok b3 c2.has x31 ((rep_pair rep_int rep_int) : rep bl x31 _) ex33) fun jx bm j3 ee du d5 => ?_
     replace bx := bx.mono du
     obtain ⟨_, rfl, ⟨_, _, rfl, rfl, rfl⟩⟩ := ee
     refine ⟨.one (.agg [.int .i64 x33.lo, .int .i64 x33.hi]), rfl, fun ii (gm : Kn 89 (K15e7 a b d aw az x_v11) ((tA 33 [.int .i64 x33.lo, .int .i64 x33.hi]) :: (tA 32 (K15c1 x31)) :: (tS 27 ag x_v10.length ah) :: (tI 4 x_v11) :: K15m18) ii) => hK _ _ d5.plOk ?_⟩
     refine Dl 8 fun K hK => ?_
     refine wS 39 2 [.int .i64 x33.lo, .int .i64 x33.hi] gm d5 fun br ij i2 (gn : Kn 89 (K15e7 a b d aw az x_v11) ((tS 34 br 1 1) :: (tA 33 [.int .i64 x33.lo, .int .i64 x33.hi]) :: (tA 32 (K15c1 x31)) :: (tS 27 ag x_v10.length ah) :: (tI 4 x_v11) :: K15m18) ij) (c3 : Mem ⟨w, h, noX⟩ bm (K15e7 a b d aw az x_v11) [⟨(K15c16 p r_ q k m l o), some 28⟩, ⟨K15c10, some 43⟩, ⟨(K15c12 ag x_v10 ah x9 r_), some 43⟩, ⟨(K15c1 x31), none⟩] [⟨ag, x_v10.length, ah, 39, 2, a4, 0⟩, ⟨br, 1, 1, 39, 2, ([.int .i64 x33.lo, .int .i64 x33.hi] : List Value), 0⟩] i2) => ?_
     have ce : Cells bm ([x33] : List Rg) ([.int .i64 x33.lo, .int .i64 x33.hi] : List Value) := ⟨_, _, rfl, ((rep_pair rep_int rep_int) : rep bm (x33 : Rg) _), rfl⟩
     refine hK _ _ c3.plOk ?_
     obtain ⟨x35, ex35, an⟩ := bnd an
     obtain ⟨c8, gq⟩ := app_some ex35
     refine Dl 9 fun K hK => ?_
     refine wp_append 0 16 1 _ (x35.length) _ ([.int .i64 x33.lo, .int .i64 x33.hi] : List Value) gn c3 rfl rfl (by decide) rfl (by rfl) (by kernel_rfl) (by rfl) (by rfl) (Cells.len ce) (c3.rowCell (i := 1) rfl) ce.one (by rw [c8]; simp) (by rw [c8]; exact gq) (by decide) fun a7 ba dl hw ik ex (e0 : Kn 89 (K15e7 a b d aw az x_v11) ((tS 35 a7 x35.length ba) :: (tS 34 br 1 1) :: (tA 33 [.int .i64 x33.lo, .int .i64 x33.hi]) :: (tA 32 (K15c1 x31)) :: (tS 27 ag x_v10.length ah) :: (tI 4 x_v11) :: K15m18) hw) (co : Mem ⟨w, h, noX⟩ bm (K15e7 a b d aw az x_v11) [⟨(K15c16 p r_ q k m l o), some 28⟩, ⟨K15c10, some 43⟩, ⟨(K15c12 ag x_v10 ah x9 r_), some 43⟩, ⟨(K15c1 x31), none⟩] [⟨a7, x35.length, ba, 39, 2, (a4 ++ ([.int .i64 x33.lo, .int .i64 x33.hi] : List Value)), dl⟩, ⟨br, 1, 1, 39, 2, ([.int .i64 x33.lo, .int .i64 x33.hi] : List Value), 0⟩] ik) => ?_
     have el : Cells bm x35 (a4 ++ ([.int .i64 x33.lo, .int .i64 x33.hi] : List Value)) := by rw [c8]; exact Cells.append bx ce
     obtain rfl : dl = 0 := Nat.le_zero.1 ex
     refine hK _ _ co.plOk ?_
     refine Dr [10] (dn 10) ((tP 36 2 0) :: (tS 35 a7 x35.length ba) :: (tI 4 x_v11) :: K15m18) e0 co fun hx e1 => ?_
     refine D_sync 11 rfl (by kernel_rfl) (by decide) (rfl) (by kernel_rfl) fun K hK => ?_
     refine wst 2 0 (.c (.slice a7 x35.length ba)) [.slice a7 x35.length ba, .int .i64 x9.lo, .int .i64 x9.hi, .slice none 0 0, .slice none 0 0, .int .i64 r_.unit, .int .i64 r_.gap, .int .i64 r_.fr, .int .i64 r_.to_] e1 co fun il e2 (dv : Mem ⟨w, h, noX⟩ bm (K15e7 a b d aw az x_v11) [⟨(K15c16 p r_ q k m l o), some 28⟩, ⟨K15c10, some 43⟩, ⟨[.slice a7 x35.length ba, .int .i64 x9.lo, .int .i64 x9.hi, .slice none 0 0, .slice none 0 0, .int .i64 r_.unit, .int .i64 r_.gap, .int .i64 r_.fr, .int .i64 r_.to_], some 43⟩, ⟨(K15c1 x31), none⟩] [⟨a7, x35.length, ba, 39, 2, (a4 ++ ([.int .i64 x33.lo, .int .i64 x33.hi] : List Value)), 0⟩, ⟨br, 1, 1, 39, 2, ([.int .i64 x33.lo, .int .i64 x33.hi] : List Value), 0⟩] il) => hK _ _ ?_
     have e3 : Kn 89 (K15e7 a b d aw az x_v11) ((tI 4 x_v11) :: K15m18) hx := e2.kp
     refine wpG_end (by kernel_rfl) (wp_region_from (Rk 0 3 ((tI 4 (IntKind.i64.wrap (x_v11 + 1))) :: K15m18) e3 dv fun i9 e4 => ?_))
     refine wf ?_
     exact Exists.intro b3 ⟨Nat.lt_succ_self _, Exists.intro x35 ⟨(IntKind.i64.wrap (x_v11 + 1)), a7, ba, (a4 ++ ([.int .i64 x33.lo, .int .i64 x33.hi] : List Value)), _, _, rfl, ((e4.keep [4, 3, 2, 1] (by rfl)).cut 3 (by kernel_rfl)), ((dv.cutRw 1).cutPl 3 (by kernel_rfl)), (Heap.le_trans bu du), el, an⟩⟩
    ·
     rw [b9, cond_false] at an
     refine wp_exit ?_
     obtain rfl := Option.some.inj an
     exact Exists.intro ag ⟨ah, a4, _, _, rfl, ch.kp, bj, bu, bx⟩
  ·
   rintro _ im ⟨f, g, y, de, bd, rfl, e5, dw, ci, bg⟩
   replace ax := ax.mono ci
   replace ar := ar.mono ci
   replace ak := ak.mono ci
   refine wp_seq (wp_seq (wp_region_from (Rk 0 1 ((tI 5 0) :: K15m18) e5 dw fun ja e6 => ?_)))
   refine wf ?_
   have gu : Mem ⟨w, h, noX⟩ bd [(a, 0), (b, 0), (d, 0)] [⟨(K15c16 p r_ q k m l o), some 28⟩, ⟨K15c10, some 43⟩, ⟨[.slice f e.length g, .int .i64 x9.lo, .int .i64 x9.hi, .slice none 0 0, .slice none 0 0, .int .i64 r_.unit, .int .i64 r_.gap, .int .i64 r_.fr, .int .i64 r_.to_], some 43⟩] [⟨f, e.length, g, 39, 2, y, 0⟩, ⟨none, 0, 0, 96, 3, [], 0⟩] im := dw.nilRow 96 3
   have em : Cells bd ([] : List Bus) [] := Cells.nil
   obtain ⟨s, dg, H⟩ := bnd H
   refine wp_mid' (fun a' w' => ∃ (u : Option Addr) (x : Nat) (ai : List Value) (da : Array Value) (bb : Heap), a' = ⟨da, []⟩ ∧ Kn 89 [(a, 0), (b, 0), (d, 0)] K15m18 da ∧ Mem ⟨w, h, noX⟩ bb [(a, 0), (b, 0), (d, 0)] [⟨(K15c16 p r_ q k m l o), some 28⟩, ⟨K15c10, some 43⟩, ⟨[.slice f e.length g, .int .i64 x9.lo, .int .i64 x9.hi, .slice u s.length x, .slice none 0 0, .int .i64 r_.unit, .int .i64 r_.gap, .int .i64 r_.fr, .int .i64 r_.to_], some 43⟩] [⟨f, e.length, g, 39, 2, y, 0⟩, ⟨u, s.length, x, 96, 3, ai, 0⟩] w' ∧ Heap.le bd bb ∧ Cells bb s ai) ?_ ?_
   ·
    refine wp_block ?_
    refine wp_loop_n (fun ht a' w' => ∃ (x_v20 : List Bus) (x_v21 : Int) (z : Option Addr) (aa : Nat) (a0 : List Value) (db : Array Value) (bf : Heap), a' = ⟨db, []⟩ ∧ Kn 89 [(a, 0), (b, 0), (d, 0)] ((tI 5 x_v21) :: K15m18) db ∧ Mem ⟨w, h, noX⟩ bf [(a, 0), (b, 0), (d, 0)] [⟨(K15c16 p r_ q k m l o), some 28⟩, ⟨K15c10, some 43⟩, ⟨(K15c13 f e g x9 z x_v20 aa r_), some 43⟩] [⟨f, e.length, g, 39, 2, y, 0⟩, ⟨z, x_v20.length, aa, 96, 3, a0, 0⟩] w' ∧ Heap.le bd bf ∧ Cells bf x_v20 a0 ∧ law_Route_l2 ht r_ x_v20 x_v21 = some s) n ?_ ?_
    ·
     exact Exists.intro ([] : List Bus) ⟨0, none, 0, ([]), _, _, rfl, e6.kp, gu, (Heap.le_refl _), em, dg⟩
    ·
     rintro b2 _ d8 ⟨x_v20, x_v21, z, aa, a0, db, bf, rfl, e8, bh, bn, bw, aj⟩
     clear dg
     obtain _ | b2 := b2
     ·
      rw [law_Route_l2] at aj; cases aj
     rw [law_Route_l2] at aj
     replace ax := ax.mono bn
     replace ar := ar.mono bn
     replace ak := ak.mono bn
     replace bg := bg.mono bn
     refine wp_seq (wp_seq (wp_region_from (Rk 0 5 ((tB 41 (decide (x_v21 < ((r_.buses.length : Nat) : Int)))) :: (tI 5 x_v21) :: K15m18) e8 bh fun jb cf => ?_)))
     refine wf (wC (decide (x_v21 < ((r_.buses.length : Nat) : Int))) cf (fun b7 => ?_) (fun b7 => ?_))
     ·
      rw [b7, cond_true] at aj
      refine wp_skip (wp_seq (wp_block (wp_region_G (by kernel_rfl) ?_)))
      replace bh := bh.drew
      refine wpG_of_D [] [(a, 0), (b, 0), (d, 0)] [⟨(K15c16 p r_ q k m l o), some 28⟩, ⟨K15c10, some 43⟩, ⟨(K15c13 f e g x9 z x_v20 aa r_), some 43⟩] ?_
      refine Dr [0, 1, 2, 3, 4] (dn 4) ((tI 48 x_v21) :: (tS 47 k r_.buses.length m) :: (K15m19 z x_v20 aa x_v21)) cf bh fun jc e9 => ?_
      obtain ⟨x49, ex49, aj⟩ := bnd aj
      obtain ⟨gz, g4, hn⟩ := idx_some ex49
      obtain ⟨al, ao, i3, eg, hd, en⟩ := ar.get (by decide) hn
      obtain ⟨_, _, rfl, rfl, ⟨_, _, rfl, rfl, rfl⟩⟩ := hd
      have cp : Mem ⟨w, h, noX⟩ bf [(a, 0), (b, 0), (d, 0), (al, ao + (x_v21 : Int).toNat * 3)] [⟨(K15c16 p r_ q k m l o), some 28⟩, ⟨K15c10, some 43⟩, ⟨(K15c13 f e g x9 z x_v20 aa r_), some 43⟩, ⟨(K15c5 x49), none⟩] [⟨f, e.length, g, 39, 2, y, 0⟩, ⟨z, x_v20.length, aa, 96, 3, a0, 0⟩] (World.drew d8) := bh.addPlc (cs := (K15c5 x49)) (fun j c hj => en j _ (map_get hj)) rfl (by kernel_rfl) (by kernel_rfl)
      refine D_index 5 (x_v21) (K15c5 x49) (fun _ _ _ _ _ h => h) rfl rfl (rfl) rfl (by decide) (by kernel_rfl) (by kernel_rfl) e9 bh.plOk (by rfl) (by rfl) (by rfl) eg (by rfl) gz g4 (by kernel_rfl) fun hz (fa : Kn 89 [(a, 0), (b, 0), (d, 0), (al, ao + (x_v21 : Int).toNat * 3)] ((tP 49 3 0) :: (tI 48 x_v21) :: (tS 47 k r_.buses.length m) :: (K15m19 z x_v20 aa x_v21)) hz) => ?_
      refine Dr [6, 7, 8, 9, 10] (dn 10) ((tI 54 x_v21) :: (tS 53 k r_.buses.length m) :: (tI 51 x49.stop) :: (K15m19 z x_v20 aa x_v21)) fa cp fun jd fb => ?_
      obtain ⟨x55, ex55, aj⟩ := bnd aj
      obtain ⟨g0, g5, ho⟩ := idx_some ex55
      obtain ⟨av, ay, i4, eh, he, eo⟩ := ar.get (by decide) ho
      obtain ⟨_, _, rfl, rfl, ⟨_, _, rfl, rfl, rfl⟩⟩ := he
      have cq : Mem ⟨w, h, noX⟩ bf (K15e8 a b d al ao x_v21 av ay) [⟨(K15c16 p r_ q k m l o), some 28⟩, ⟨K15c10, some 43⟩, ⟨(K15c13 f e g x9 z x_v20 aa r_), some 43⟩, ⟨(K15c5 x49), none⟩, ⟨(K15c6 x55), none⟩] [⟨f, e.length, g, 39, 2, y, 0⟩, ⟨z, x_v20.length, aa, 96, 3, a0, 0⟩] (World.drew d8) := cp.addPlc (cs := (K15c6 x55)) (fun j c hj => eo j _ (map_get hj)) rfl (by kernel_rfl) (by kernel_rfl)
      refine D_index 11 (x_v21) (K15c6 x55) (fun _ _ _ _ _ h => h) rfl rfl (rfl) rfl (by decide) (by kernel_rfl) (by kernel_rfl) fb cp.plOk (by rfl) (by rfl) (by rfl) eh (by rfl) g0 g5 (by kernel_rfl) fun h0 (fc : Kn 89 (K15e8 a b d al ao x_v21 av ay) ((tP 55 4 0) :: (tI 54 x_v21) :: (tS 53 k r_.buses.length m) :: (tI 51 x49.stop) :: (K15m19 z x_v20 aa x_v21)) h0) => ?_
      refine Dr [12, 13] (dn 13) ((tA 57 [.int .i64 x55.tm.lo, .int .i64 x55.tm.hi]) :: (tI 51 x49.stop) :: (K15m19 z x_v20 aa x_v21)) fc cq fun je fd => ?_
      obtain ⟨x58, ex58, aj⟩ := bnd aj
      refine Dl 14 fun K hK => ?_
      refine wc [.agg [.int .i64 x55.tm.lo, .int .i64 x55.tm.hi]] fd cq (law_to_ok b2 cq.has x55.tm ((rep_pair rep_int rep_int) : rep bf x55.tm _) ex58) fun ju bk jy eb ds cr => ?_
      replace bw := bw.mono ds
      obtain ⟨_, rfl, ⟨_, _, rfl, rfl, rfl⟩⟩ := eb
      refine ⟨.one (.agg [.int .i64 x58.lo, .int .i64 x58.hi]), rfl, fun h1 (ff : Kn 89 (K15e8 a b d al ao x_v21 av ay) ((tA 58 [.int .i64 x58.lo, .int .i64 x58.hi]) :: (tA 57 [.int .i64 x55.tm.lo, .int .i64 x55.tm.hi]) :: (tI 51 x49.stop) :: (K15m19 z x_v20 aa x_v21)) h1) => hK _ _ cr.plOk ?_⟩
      refine Dr [15] (dn 15) ((tA 59 [.int .i64 x49.stop, .int .i64 x58.lo, .int .i64 x58.hi]) :: (K15m19 z x_v20 aa x_v21)) ff cr fun jf fg => ?_
      refine Dl 16 fun K hK => ?_
      refine wS 96 3 [.int .i64 x49.stop, .int .i64 x58.lo, .int .i64 x58.hi] fg cr fun bp h2 iq (fh : Kn 89 (K15e8 a b d al ao x_v21 av ay) ((tS 60 bp 1 1) :: (tA 59 [.int .i64 x49.stop, .int .i64 x58.lo, .int .i64 x58.hi]) :: (K15m19 z x_v20 aa x_v21)) h2) (ct : Mem ⟨w, h, noX⟩ bk (K15e8 a b d al ao x_v21 av ay) [⟨(K15c16 p r_ q k m l o), some 28⟩, ⟨K15c10, some 43⟩, ⟨(K15c13 f e g x9 z x_v20 aa r_), some 43⟩, ⟨(K15c5 x49), none⟩, ⟨(K15c6 x55), none⟩] [⟨f, e.length, g, 39, 2, y, 0⟩, ⟨z, x_v20.length, aa, 96, 3, a0, 0⟩, ⟨bp, 1, 1, 96, 3, ([.int .i64 x49.stop, .int .i64 x58.lo, .int .i64 x58.hi] : List Value), 0⟩] iq) => ?_
      have cb : Cells bk ([(Bus.mk x49.stop x58)] : List Bus) ([.int .i64 x49.stop, .int .i64 x58.lo, .int .i64 x58.hi] : List Value) := ⟨_, _, rfl, ((rep_pair rep_int (rep_pair rep_int rep_int)) : rep bk ((Bus.mk x49.stop x58) : Bus) _), rfl⟩
      refine hK _ _ ct.plOk ?_
      obtain ⟨x61, ex61, aj⟩ := bnd aj
      obtain ⟨c6, go⟩ := app_some ex61
      refine Dl 17 fun K hK => ?_
      refine wp_append 1 24 1 _ (x61.length) _ ([.int .i64 x49.stop, .int .i64 x58.lo, .int .i64 x58.hi] : List Value) fh ct rfl rfl (by decide) rfl (by rfl) (by kernel_rfl) (by rfl) (by rfl) (Cells.len cb) (ct.rowCell (i := 2) rfl) cb.one (by rw [c6]; simp) (by rw [c6]; exact go) (by decide) fun a5 a8 dj h3 ir ey (fj : Kn 89 (K15e8 a b d al ao x_v21 av ay) ((tS 61 a5 x61.length a8) :: (tS 60 bp 1 1) :: (tA 59 [.int .i64 x49.stop, .int .i64 x58.lo, .int .i64 x58.hi]) :: (K15m19 z x_v20 aa x_v21)) h3) (cu : Mem ⟨w, h, noX⟩ bk (K15e8 a b d al ao x_v21 av ay) [⟨(K15c16 p r_ q k m l o), some 28⟩, ⟨K15c10, some 43⟩, ⟨(K15c13 f e g x9 z x_v20 aa r_), some 43⟩, ⟨(K15c5 x49), none⟩, ⟨(K15c6 x55), none⟩] [⟨f, e.length, g, 39, 2, y, 0⟩, ⟨a5, x61.length, a8, 96, 3, (a0 ++ ([.int .i64 x49.stop, .int .i64 x58.lo, .int .i64 x58.hi] : List Value)), dj⟩, ⟨bp, 1, 1, 96, 3, ([.int .i64 x49.stop, .int .i64 x58.lo, .int .i64 x58.hi] : List Value), 0⟩] ir) => ?_
      have ep : Cells bk x61 (a0 ++ ([.int .i64 x49.stop, .int .i64 x58.lo, .int .i64 x58.hi] : List Value)) := by rw [c6]; exact Cells.append bw cb
      obtain rfl : dj = 0 := Nat.le_zero.1 ey
      refine hK _ _ cu.plOk ?_
      refine Dr [18] (dn 18) ((tP 62 2 3) :: (tS 61 a5 x61.length a8) :: (tI 5 x_v21) :: K15m18) fj cu fun h4 fk => ?_
      refine D_sync 19 rfl (by kernel_rfl) (by decide) (rfl) (by kernel_rfl) fun K hK => ?_
      refine wst 2 3 (.c (.slice a5 x61.length a8)) [.slice f e.length g, .int .i64 x9.lo, .int .i64 x9.hi, .slice a5 x61.length a8, .slice none 0 0, .int .i64 r_.unit, .int .i64 r_.gap, .int .i64 r_.fr, .int .i64 r_.to_] fk cu fun iu fl (dx : Mem ⟨w, h, noX⟩ bk (K15e8 a b d al ao x_v21 av ay) [⟨(K15c16 p r_ q k m l o), some 28⟩, ⟨K15c10, some 43⟩, ⟨[.slice f e.length g, .int .i64 x9.lo, .int .i64 x9.hi, .slice a5 x61.length a8, .slice none 0 0, .int .i64 r_.unit, .int .i64 r_.gap, .int .i64 r_.fr, .int .i64 r_.to_], some 43⟩, ⟨(K15c5 x49), none⟩, ⟨(K15c6 x55), none⟩] [⟨f, e.length, g, 39, 2, y, 0⟩, ⟨a5, x61.length, a8, 96, 3, (a0 ++ ([.int .i64 x49.stop, .int .i64 x58.lo, .int .i64 x58.hi] : List Value)), 0⟩, ⟨bp, 1, 1, 96, 3, ([.int .i64 x49.stop, .int .i64 x58.lo, .int .i64 x58.hi] : List Value), 0⟩] iu) => hK _ _ ?_
      have fm : Kn 89 (K15e8 a b d al ao x_v21 av ay) ((tI 5 x_v21) :: K15m18) h4 := fl.kp
      refine wpG_end (by kernel_rfl) (wp_region_from (Rk 0 3 ((tI 5 (IntKind.i64.wrap (x_v21 + 1))) :: K15m18) fm dx fun jh fn => ?_))
      refine wf ?_
      exact Exists.intro b2 ⟨Nat.lt_succ_self _, Exists.intro x61 ⟨(IntKind.i64.wrap (x_v21 + 1)), a5, a8, (a0 ++ ([.int .i64 x49.stop, .int .i64 x58.lo, .int .i64 x58.hi] : List Value)), _, _, rfl, ((fn.keep [5, 3, 2, 1] (by rfl)).cut 3 (by kernel_rfl)), ((dx.cutRw 2).cutPl 3 (by kernel_rfl)), (Heap.le_trans bn ds), ep, aj⟩⟩
     ·
      rw [b7, cond_false] at aj
      refine wp_exit ?_
      obtain rfl := Option.some.inj aj
      exact Exists.intro z ⟨aa, a0, _, _, rfl, cf.kp, bh, bn, bw⟩
   ·
    rintro _ iv ⟨u, x, ai, da, bb, rfl, fo, dy, bz, ca⟩
    replace ax := ax.mono bz
    replace ar := ar.mono bz
    replace ak := ak.mono bz
    replace bg := bg.mono bz
    refine wp_seq (wp_seq (wp_region_from (Rk 0 1 ((tI 6 0) :: K15m18) fo dy fun ji fp => ?_)))
    refine wf ?_
    have gw : Mem ⟨w, h, noX⟩ bb [(a, 0), (b, 0), (d, 0)] [⟨(K15c16 p r_ q k m l o), some 28⟩, ⟨K15c10, some 43⟩, ⟨[.slice f e.length g, .int .i64 x9.lo, .int .i64 x9.hi, .slice u s.length x, .slice none 0 0, .int .i64 r_.unit, .int .i64 r_.gap, .int .i64 r_.fr, .int .i64 r_.to_], some 43⟩] [⟨f, e.length, g, 39, 2, y, 0⟩, ⟨u, s.length, x, 96, 3, ai, 0⟩, ⟨none, 0, 0, 110, 2, [], 0⟩] iv := dy.nilRow 110 2
    have er : Cells bb ([] : List Spare) [] := Cells.nil
    obtain ⟨ab, dh, H⟩ := bnd H
    refine wp_mid' (fun a' w' => ∃ (ac : Option Addr) (ad : Nat) (be : List Value) (dc : Array Value) (bt : Heap), a' = ⟨dc, []⟩ ∧ Kn 89 [(a, 0), (b, 0), (d, 0)] [(tP 3 2 0), (tP 2 1 0)] dc ∧ Mem ⟨w, h, noX⟩ bt [(a, 0), (b, 0), (d, 0)] [⟨(K15c16 p r_ q k m l o), some 28⟩, ⟨K15c10, some 43⟩, ⟨(K15c14 f e g x9 u s x ac ab ad r_), some 43⟩] [⟨f, e.length, g, 39, 2, y, 0⟩, ⟨u, s.length, x, 96, 3, ai, 0⟩, ⟨ac, ab.length, ad, 110, 2, be, 0⟩] w' ∧ Heap.le bb bt ∧ Cells bt ab be) ?_ ?_
    ·
     refine wp_block ?_
     refine wp_loop_n (fun hu a' w' => ∃ (x_v30 : List Spare) (x_v31 : Int) (ae : Option Addr) (af : Nat) (a1 : List Value) (dd : Array Value) (aq : Heap), a' = ⟨dd, []⟩ ∧ Kn 89 [(a, 0), (b, 0), (d, 0)] ((tI 6 x_v31) :: K15m18) dd ∧ Mem ⟨w, h, noX⟩ aq [(a, 0), (b, 0), (d, 0)] [⟨(K15c16 p r_ q k m l o), some 28⟩, ⟨K15c10, some 43⟩, ⟨(K15c15 f e g x9 u s x ae x_v30 af r_), some 43⟩] [⟨f, e.length, g, 39, 2, y, 0⟩, ⟨u, s.length, x, 96, 3, ai, 0⟩, ⟨ae, x_v30.length, af, 110, 2, a1, 0⟩] w' ∧ Heap.le bb aq ∧ Cells aq x_v30 a1 ∧ law_Route_l3 hu r_ x_v30 x_v31 = some ab) n ?_ ?_
     ·
      exact Exists.intro ([] : List Spare) ⟨0, none, 0, ([]), _, _, rfl, fp.kp, gw, (Heap.le_refl _), er, dh⟩
     ·
      rintro c9 _ d9 ⟨x_v30, x_v31, ae, af, a1, dd, aq, rfl, fq, bi, cj, dq, am⟩
      clear dh
      obtain _ | c9 := c9
      ·
       rw [law_Route_l3] at am; cases am
      rw [law_Route_l3] at am
      replace ak := ak.mono cj
      refine wp_seq (wp_seq (wp_region_from (Rk 0 5 ((tB 67 (decide (x_v31 < ((r_.spares.length : Nat) : Int)))) :: (tI 6 x_v31) :: K15m18) fq bi fun jj cg => ?_)))
      refine wf (wC (decide (x_v31 < ((r_.spares.length : Nat) : Int))) cg (fun b8 => ?_) (fun b8 => ?_))
      ·
       rw [b8, cond_true] at am
       refine wp_skip (wp_seq (wp_block (wp_region_G (by kernel_rfl) ?_)))
       replace bi := bi.drew
       refine wpG_of_D [] [(a, 0), (b, 0), (d, 0)] [⟨(K15c16 p r_ q k m l o), some 28⟩, ⟨K15c10, some 43⟩, ⟨(K15c15 f e g x9 u s x ae x_v30 af r_), some 43⟩] ?_
       refine Dr [0, 1, 2, 3, 4] (dn 4) ((tI 74 x_v31) :: (tS 73 l r_.spares.length o) :: (tS 71 ae x_v30.length af) :: (tI 6 x_v31) :: K15m18) cg bi fun jk fs => ?_
       obtain ⟨x75, ex75, am⟩ := bnd am
       obtain ⟨g1, g6, hq⟩ := idx_some ex75
       obtain ⟨ap, au, i5, ei, hf, es⟩ := ak.get (by decide) hq
       obtain ⟨_, _, rfl, rfl, rfl⟩ := hf
       have cv : Mem ⟨w, h, noX⟩ aq [(a, 0), (b, 0), (d, 0), (ap, au + (x_v31 : Int).toNat * 2)] [⟨(K15c16 p r_ q k m l o), some 28⟩, ⟨K15c10, some 43⟩, ⟨(K15c15 f e g x9 u s x ae x_v30 af r_), some 43⟩, ⟨(K15c2 x75), none⟩] [⟨f, e.length, g, 39, 2, y, 0⟩, ⟨u, s.length, x, 96, 3, ai, 0⟩, ⟨ae, x_v30.length, af, 110, 2, a1, 0⟩] (World.drew d9) := bi.addPlc (cs := (K15c2 x75)) (fun j c hj => es j _ (map_get hj)) rfl (by kernel_rfl) (by kernel_rfl)
       refine D_index 5 (x_v31) (K15c2 x75) (fun _ _ _ _ _ h => h) rfl rfl (rfl) rfl (by decide) (by kernel_rfl) (by kernel_rfl) fs bi.plOk (by rfl) (by rfl) (by rfl) ei (by rfl) g1 g6 (by kernel_rfl) fun h5 (ft : Kn 89 [(a, 0), (b, 0), (d, 0), (ap, au + (x_v31 : Int).toNat * 2)] ((tP 75 3 0) :: (tI 74 x_v31) :: (tS 73 l r_.spares.length o) :: (tS 71 ae x_v30.length af) :: (tI 6 x_v31) :: K15m18) h5) => ?_
       refine Dr [6, 7, 8, 9, 10] (dn 10) ((tI 80 x_v31) :: (tS 79 l r_.spares.length o) :: (tI 77 x75.stop) :: (tS 71 ae x_v30.length af) :: (tI 6 x_v31) :: K15m18) ft cv fun jl fu => ?_
       obtain ⟨x81, ex81, am⟩ := bnd am
       obtain ⟨g2, g7, hr⟩ := idx_some ex81
       obtain ⟨a2, a3, i6, ej, hg, et⟩ := ak.get (by decide) hr
       obtain ⟨_, _, rfl, rfl, rfl⟩ := hg
       have dz : Mem ⟨w, h, noX⟩ aq (K15e9 a b d ap au x_v31 a2 a3) [⟨(K15c16 p r_ q k m l o), some 28⟩, ⟨K15c10, some 43⟩, ⟨(K15c15 f e g x9 u s x ae x_v30 af r_), some 43⟩, ⟨(K15c2 x75), none⟩, ⟨(K15c3 x81), none⟩] [⟨f, e.length, g, 39, 2, y, 0⟩, ⟨u, s.length, x, 96, 3, ai, 0⟩, ⟨ae, x_v30.length, af, 110, 2, a1, 0⟩] (World.drew d9) := cv.addPlc (cs := (K15c3 x81)) (fun j c hj => et j _ (map_get hj)) rfl (by kernel_rfl) (by kernel_rfl)
       refine D_index 11 (x_v31) (K15c3 x81) (fun _ _ _ _ _ h => h) rfl rfl (rfl) rfl (by decide) (by kernel_rfl) (by kernel_rfl) fu cv.plOk (by rfl) (by rfl) (by rfl) ej (by rfl) g2 g7 (by kernel_rfl) fun h6 (fv : Kn 89 (K15e9 a b d ap au x_v31 a2 a3) ((tP 81 4 0) :: (tI 80 x_v31) :: (tS 79 l r_.spares.length o) :: (tI 77 x75.stop) :: (tS 71 ae x_v30.length af) :: (tI 6 x_v31) :: K15m18) h6) => ?_
       refine Dr [12, 13, 14] (dn 14) ((tA 84 [.int .i64 x75.stop, .int .i64 x81.tm]) :: (tS 71 ae x_v30.length af) :: (tI 6 x_v31) :: K15m18) fv dz fun jm fw => ?_
       refine Dl 15 fun K hK => ?_
       refine wS 110 2 [.int .i64 x75.stop, .int .i64 x81.tm] fw dz fun bq h7 iw (fx : Kn 89 (K15e9 a b d ap au x_v31 a2 a3) ((tS 85 bq 1 1) :: (tA 84 [.int .i64 x75.stop, .int .i64 x81.tm]) :: (tS 71 ae x_v30.length af) :: (tI 6 x_v31) :: K15m18) h7) (cw : Mem ⟨w, h, noX⟩ aq (K15e9 a b d ap au x_v31 a2 a3) [⟨(K15c16 p r_ q k m l o), some 28⟩, ⟨K15c10, some 43⟩, ⟨(K15c15 f e g x9 u s x ae x_v30 af r_), some 43⟩, ⟨(K15c2 x75), none⟩, ⟨(K15c3 x81), none⟩] [⟨f, e.length, g, 39, 2, y, 0⟩, ⟨u, s.length, x, 96, 3, ai, 0⟩, ⟨ae, x_v30.length, af, 110, 2, a1, 0⟩, ⟨bq, 1, 1, 110, 2, ([.int .i64 x75.stop, .int .i64 x81.tm] : List Value), 0⟩] iw) => ?_
       have cd : Cells aq ([(Spare.mk x75.stop x81.tm)] : List Spare) ([.int .i64 x75.stop, .int .i64 x81.tm] : List Value) := ⟨_, _, rfl, ((rep_pair rep_int rep_int) : rep aq ((Spare.mk x75.stop x81.tm) : Spare) _), rfl⟩
       refine hK _ _ cw.plOk ?_
       obtain ⟨x86, ex86, am⟩ := bnd am
       obtain ⟨c7, gp⟩ := app_some ex86
       refine Dl 16 fun K hK => ?_
       refine wp_append 2 16 1 _ (x86.length) _ ([.int .i64 x75.stop, .int .i64 x81.tm] : List Value) fx cw rfl rfl (by decide) rfl (by rfl) (by kernel_rfl) (by rfl) (by rfl) (Cells.len cd) (cw.rowCell (i := 3) rfl) cd.one (by rw [c7]; simp) (by rw [c7]; exact gp) (by decide) fun a6 a9 dk h8 ix ez (fz : Kn 89 (K15e9 a b d ap au x_v31 a2 a3) ((tS 86 a6 x86.length a9) :: (tS 85 bq 1 1) :: (tA 84 [.int .i64 x75.stop, .int .i64 x81.tm]) :: (tS 71 ae x_v30.length af) :: (tI 6 x_v31) :: K15m18) h8) (cx : Mem ⟨w, h, noX⟩ aq (K15e9 a b d ap au x_v31 a2 a3) [⟨(K15c16 p r_ q k m l o), some 28⟩, ⟨K15c10, some 43⟩, ⟨(K15c15 f e g x9 u s x ae x_v30 af r_), some 43⟩, ⟨(K15c2 x75), none⟩, ⟨(K15c3 x81), none⟩] [⟨f, e.length, g, 39, 2, y, 0⟩, ⟨u, s.length, x, 96, 3, ai, 0⟩, ⟨a6, x86.length, a9, 110, 2, (a1 ++ ([.int .i64 x75.stop, .int .i64 x81.tm] : List Value)), dk⟩, ⟨bq, 1, 1, 110, 2, ([.int .i64 x75.stop, .int .i64 x81.tm] : List Value), 0⟩] ix) => ?_
       have eu : Cells aq x86 (a1 ++ ([.int .i64 x75.stop, .int .i64 x81.tm] : List Value)) := by rw [c7]; exact Cells.append dq cd
       obtain rfl : dk = 0 := Nat.le_zero.1 ez
       refine hK _ _ cx.plOk ?_
       refine Dr [17] (dn 17) ((tP 87 2 4) :: (tS 86 a6 x86.length a9) :: (tI 6 x_v31) :: K15m18) fz cx fun h9 f0 => ?_
       refine D_sync 18 rfl (by kernel_rfl) (by decide) (rfl) (by kernel_rfl) fun K hK => ?_
       refine wst 2 4 (.c (.slice a6 x86.length a9)) [.slice f e.length g, .int .i64 x9.lo, .int .i64 x9.hi, .slice u s.length x, .slice a6 x86.length a9, .int .i64 r_.unit, .int .i64 r_.gap, .int .i64 r_.fr, .int .i64 r_.to_] f0 cx fun iy f1 (d0 : Mem ⟨w, h, noX⟩ aq (K15e9 a b d ap au x_v31 a2 a3) [⟨(K15c16 p r_ q k m l o), some 28⟩, ⟨K15c10, some 43⟩, ⟨[.slice f e.length g, .int .i64 x9.lo, .int .i64 x9.hi, .slice u s.length x, .slice a6 x86.length a9, .int .i64 r_.unit, .int .i64 r_.gap, .int .i64 r_.fr, .int .i64 r_.to_], some 43⟩, ⟨(K15c2 x75), none⟩, ⟨(K15c3 x81), none⟩] [⟨f, e.length, g, 39, 2, y, 0⟩, ⟨u, s.length, x, 96, 3, ai, 0⟩, ⟨a6, x86.length, a9, 110, 2, (a1 ++ ([.int .i64 x75.stop, .int .i64 x81.tm] : List Value)), 0⟩, ⟨bq, 1, 1, 110, 2, ([.int .i64 x75.stop, .int .i64 x81.tm] : List Value), 0⟩] iy) => hK _ _ ?_
       have f2 : Kn 89 (K15e9 a b d ap au x_v31 a2 a3) ((tI 6 x_v31) :: K15m18) h9 := f1.kp
       refine wpG_end (by kernel_rfl) (wp_region_from (Rk 0 3 ((tI 6 (IntKind.i64.wrap (x_v31 + 1))) :: K15m18) f2 d0 fun jn f3 => ?_))
       refine wf ?_
       exact Exists.intro c9 ⟨Nat.lt_succ_self _, Exists.intro x86 ⟨(IntKind.i64.wrap (x_v31 + 1)), a6, a9, (a1 ++ ([.int .i64 x75.stop, .int .i64 x81.tm] : List Value)), _, _, rfl, ((f3.keep [6, 3, 2, 1] (by rfl)).cut 3 (by kernel_rfl)), ((d0.cutRw 3).cutPl 3 (by kernel_rfl)), cj, eu, am⟩⟩
      ·
       rw [b8, cond_false] at am
       refine wp_exit ?_
       obtain rfl := Option.some.inj am
       exact Exists.intro ae ⟨af, a1, _, _, rfl, cg.kp, bi, cj, dq⟩
    ·
     rintro _ j0 ⟨ac, ad, be, dc, bt, rfl, f4, d1, dt, cc⟩
     refine wp_seq (wp_region_from (Rk 0 1 [(tA 88 (K15c14 f e g x9 u s x ac ab ad r_)), (tP 2 1 0)] f4 d1 fun ia f5 => ?_))
     refine wl fun K hK => ?_
     refine wst 1 0 (.agg (K15c14 f e g x9 u s x ac ab ad r_)) (K15c14 f e g x9 u s x ac ab ad r_) f5 d1 fun b5 f6 (d2 : Mem ⟨w, h, noX⟩ bt [(a, 0), (b, 0), (d, 0)] [⟨(K15c16 p r_ q k m l o), some 28⟩, ⟨(K15c14 f e g x9 u s x ac ab ad r_), some 43⟩, ⟨(K15c14 f e g x9 u s x ac ab ad r_), some 43⟩] [⟨f, e.length, g, 39, 2, y, 0⟩, ⟨u, s.length, x, 96, 3, ai, 0⟩, ⟨ac, ab.length, ad, 110, 2, be, 0⟩] b5) => hK _ _ ?_
     have f7 : Kn 89 [(a, 0), (b, 0), (d, 0)] [(tP 2 1 0)] ia := f6.kp
     refine wf (wp_ret ?_)
     obtain ⟨dm, cl, ha, b0⟩ := d2.settle (i := 0) rfl
     replace bg := bg.mono (Heap.le_trans dt cl)
     replace b0 : Mem ⟨w, h, noX⟩ dm [(a, 0), (b, 0), (d, 0)] [⟨(K15c16 p r_ q k m l o), some 28⟩, ⟨(K15c14 f e g x9 u s x ac ab ad r_), some 43⟩, ⟨(K15c14 f e g x9 u s x ac ab ad r_), some 43⟩] [⟨f, e.length, g, 39, 2, y, (y : List Value).length⟩, ⟨u, s.length, x, 96, 3, ai, 0⟩, ⟨ac, ab.length, ad, 110, 2, be, 0⟩] b5 := b0
     have c4 : RepS dm f g e := ⟨_, bg, ha, d2.rowCap (i := 0) rfl⟩
     obtain ⟨dp, cm, hb, b1⟩ := b0.settle (i := 1) rfl
     replace ca := ca.mono (Heap.le_trans (Heap.le_trans dt cl) cm)
     replace b1 : Mem ⟨w, h, noX⟩ dp [(a, 0), (b, 0), (d, 0)] [⟨(K15c16 p r_ q k m l o), some 28⟩, ⟨(K15c14 f e g x9 u s x ac ab ad r_), some 43⟩, ⟨(K15c14 f e g x9 u s x ac ab ad r_), some 43⟩] [⟨f, e.length, g, 39, 2, y, (y : List Value).length⟩, ⟨u, s.length, x, 96, 3, ai, (ai : List Value).length⟩, ⟨ac, ab.length, ad, 110, 2, be, 0⟩] b5 := b1
     have c5 : RepS dp u x s := ⟨_, ca, hb, b0.rowCap (i := 1) rfl⟩
     obtain ⟨b6, cn, hc, cy⟩ := b1.settle (i := 2) rfl
     replace c4 := c4.mono (Heap.le_trans cm cn)
     replace c5 := c5.mono cn
     replace cc := cc.mono (Heap.le_trans (Heap.le_trans cl cm) cn)
     replace cy : Mem ⟨w, h, noX⟩ b6 [(a, 0), (b, 0), (d, 0)] [⟨(K15c16 p r_ q k m l o), some 28⟩, ⟨(K15c14 f e g x9 u s x ac ab ad r_), some 43⟩, ⟨(K15c14 f e g x9 u s x ac ab ad r_), some 43⟩] [⟨f, e.length, g, 39, 2, y, (y : List Value).length⟩, ⟨u, s.length, x, 96, 3, ai, (ai : List Value).length⟩, ⟨ac, ab.length, ad, 110, 2, be, (be : List Value).length⟩] b5 := cy
     have g9 : RepS b6 ac ad ab := ⟨_, cc, hc, b1.rowCap (i := 2) rfl⟩
     obtain rfl := Option.some.inj H
     exact rt (.one (.agg (K15c14 f e g x9 u s x ac ab ad r_))) f7 cy ⟨_, rfl, ((rep_pair (rep_slice c4) (rep_pair (rep_pair rep_int rep_int) (rep_pair (rep_slice c5) (rep_pair (rep_slice g9) (rep_pair rep_int (rep_pair rep_int (rep_pair rep_int rep_int))))))) : rep b6 ((Route.mk e x9 s ab r_.unit r_.gap r_.fr r_.to_) : Route) _)⟩
 refine D_two 2 12 rfl rfl (by kernel_rfl) (by decide) (rfl) (rfl) (fun K hK => ?_) (fun K hK => ?_)
 ·
  refine wc [.agg (K15c4 r_)] dr bo (law_to_ok n bo.has r_.turn ((rep_pair rep_int rep_int) : rep h r_.turn _) ex9) fun jv ef j1 ec gr cz => ?_
  obtain ⟨_, rfl, ⟨_, _, rfl, rfl, rfl⟩⟩ := ec
  refine ⟨.one (.agg [.int .i64 x9.lo, .int .i64 x9.hi]), rfl, fun ib (f9 : Kn 89 [(a, 0), (b, 0)] ((tA 9 [.int .i64 x9.lo, .int .i64 x9.hi]) :: (K15m20 r_)) ib) => hK _ _ cz.plOk ?_⟩
  refine Dr [11] [11, 2, 10, 9, 8, 7, 6, 5, 4, 3, 1, 0] [(tA 18 (K15c11 x9 r_)), (tP 2 1 0), (tP 1 0 0)] f9 cz fun jo ga => ?_
  refine Dl 12 fun K hK => ?_
  refine wa K15c10 ga cz fun bv ic iz (gc : Kn 89 [(a, 0), (b, 0), (bv, 0)] [(tP 3 2 0), (tA 18 (K15c11 x9 r_)), (tP 2 1 0), (tP 1 0 0)] ic) (d4 : Mem ⟨w, h, noX⟩ ef [(a, 0), (b, 0), (bv, 0)] (K15p17 p r_ q k m l o) [] iz) => hK _ _ (PlOk.pop (Nat.le_of_eq rfl) (by kernel_rfl) d4.plOk) (D_ext (e' := [(a, 0), (b, 0), (bv, 0)]) (pl' := (K15p17 p r_ q k m l o)) (fun _ hp => hp.pop (Nat.le_of_eq rfl) (by kernel_rfl)) ?_)
  refine D_perm [11, 2, 12, 10, 9, 8, 7, 6, 5, 4, 3, 1, 0] (by kernel_rfl) (by rfl) (d6 bv _ _ ?_)
  exact Exists.intro _ ⟨_, rfl, gc.kp, d4, gr⟩
 ·
  refine wa K15c10 dr bo fun bs ie i0 (gd : Kn 89 [(a, 0), (b, 0), (bs, 0)] ((tP 3 2 0) :: (K15m20 r_)) ie) (c0 : Mem ⟨w, h, noX⟩ h [(a, 0), (b, 0), (bs, 0)] (K15p17 p r_ q k m l o) [] i0) => hK _ _ (PlOk.pop (Nat.le_of_eq rfl) (by kernel_rfl) c0.plOk) (D_ext (e' := [(a, 0), (b, 0), (bs, 0)]) (pl' := (K15p17 p r_ q k m l o)) (fun _ hp => hp.pop (Nat.le_of_eq rfl) (by kernel_rfl)) ?_)
  refine Dl 2 fun K hK => ?_
  refine wc [.agg (K15c4 r_)] gd c0 (law_to_ok n c0.has r_.turn ((rep_pair rep_int rep_int) : rep h r_.turn _) ex9) fun jw i8 j2 ed gs c1 => ?_
  obtain ⟨_, rfl, ⟨_, _, rfl, rfl, rfl⟩⟩ := ed
  refine ⟨.one (.agg [.int .i64 x9.lo, .int .i64 x9.hi]), rfl, fun ig (gf : Kn 89 [(a, 0), (b, 0), (bs, 0)] ((tA 9 [.int .i64 x9.lo, .int .i64 x9.hi]) :: (tP 3 2 0) :: (K15m20 r_)) ig) => hK _ _ c1.plOk ?_⟩
  refine Dr [11] [11, 2, 12, 10, 9, 8, 7, 6, 5, 4, 3, 1, 0] ((tA 18 (K15c11 x9 r_)) :: K15m18) gf c1 fun jq gg => ?_
  refine D_perm [11, 2, 12, 10, 9, 8, 7, 6, 5, 4, 3, 1, 0] (by kernel_rfl) (by rfl) (d6 bs _ _ ?_)
  exact Exists.intro _ ⟨_, rfl, gg.kp, c1, gs⟩
end Go.Proofs.Ytokchpjijlebiaa
