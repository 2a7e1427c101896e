/- Each call computes its plain function: printed by dec.py. -/
import Derived.Test.YtokchpjijlebiaaProg
import Derived.Test.YtokchpjijlebiaaPure
import Derived.Test.YtokchpjijlebiaaWalkT
import Derived.Test.YtokchpjijlebiaaWalkV
import Derived.Test.YtokchpjijlebiaaWalkW
set_option linter.all false
namespace Go.Proofs.Ytokchpjijlebiaa
open Go Go.RowKit
open Rep (rep)
open KRep (kv)
open VRep (rv)
abbrev K58c1 (b : Option Addr) (w_ : Worked) (f : Nat) (d : Option Addr) (g : Nat) (e : Option Addr) (k : Nat) : List SC := [.slice b w_.route.legs.length f, .int .i64 w_.route.turn.lo, .int .i64 w_.route.turn.hi, .slice d w_.route.buses.length g, .slice e w_.route.spares.length k, .int .i64 w_.route.unit, .int .i64 w_.route.gap, .int .i64 w_.route.fr, .int .i64 w_.route.to_]
abbrev K58c2 (b : Option Addr) (w_ : Worked) (f : Nat) (d : Option Addr) (g : Nat) (e : Option Addr) (k : Nat) (l : Option Addr) (q : Nat) (m : Option Addr) (s : Nat) (o : Option Addr) (u : Nat) : List SC := [.slice b w_.route.legs.length f, .int .i64 w_.route.turn.lo, .int .i64 w_.route.turn.hi, .slice d w_.route.buses.length g, .slice e w_.route.spares.length k, .int .i64 w_.route.unit, .int .i64 w_.route.gap, .int .i64 w_.route.fr, .int .i64 w_.route.to_, .slice l w_.acts.holds.length q, .slice m w_.acts.turns.length s, .slice o w_.acts.spares.length u]
set_option maxRecDepth 100000 in
set_option maxHeartbeats 4000000 in
theorem control_worked_waits_ok (n : Nat) {h : Heap} {w : World} (hh : Has h w) (w_ : Worked) {cs_w_ : List Value} (hx_w_ : rep h w_ cs_w_) {r : List Int} (H : control_worked_waits n w_ = some r) :
  Calls Try.prog 58 #[.agg cs_w_.toArray] w (Ret (fun h v => ∃ a c, v = .slice a r.length c ∧ RepS h a c r) h w) := by
 obtain ⟨_, _, rfl, ⟨_, _, rfl, ⟨b, f, rfl, ac⟩, ⟨_, _, rfl, ⟨_, _, rfl, rfl, rfl⟩, ⟨_, _, rfl, ⟨d, g, rfl, ad⟩, ⟨_, _, rfl, ⟨e, k, rfl, ae⟩, ⟨_, _, rfl, rfl, ⟨_, _, rfl, rfl, ⟨_, _, rfl, rfl, rfl⟩⟩⟩⟩⟩⟩⟩, ⟨_, _, rfl, ⟨l, q, rfl, ag⟩, ⟨_, _, rfl, ⟨m, s, rfl, ah⟩, ⟨o, u, rfl, ai⟩⟩⟩⟩ := hx_w_
 refine enter 22 [.agg (K58c2 b w_ f d g e k l q m s o u)] Try.func58 rfl rfl rfl rfl fun t hk => ?_
 have hm := Mem.begin h w hh
 unfold control_worked_waits at H
 refine wp_seq (wp_region_from (wpFrom_loud _ rfl (rfl) fun K hK => ?_))
 refine wp_box (.agg (K58c2 b w_ f d g e k l q m s o u)) hk hm rfl rfl (by decide) (by kernel_rfl) (by kernel_rfl) (by kernel_rfl) fun p cu c1 (b7 : Kn 22 [(p, 0)] [(tP 1 0 0), (tA 0 (K58c2 b w_ f d g e k l q m s o u))] cu) (a6 : Mem ⟨w, h, noX⟩ h [(p, 0)] [⟨(K58c2 b w_ f d g e k l q m s o u), some 115⟩] [] c1) => hK _ _ ?_
 refine R_runk 1 1 [2, 1] [(tS 2 none 0 0), (tP 1 0 0)] b7 a6.plOk (by kernel_rfl) fun da b8 => ?_
 refine wpFrom_end (by decide) (wp_seq (wp_seq (wp_region_from (R_runk 0 1 [5, 2, 1] [(tA 5 (K58c2 b w_ f d g e k l q m s o u)), (tS 2 none 0 0), (tP 1 0 0)] b8 a6.plOk (by kernel_rfl) fun db b9 => ?_))))
 obtain ⟨x6, ex6, H⟩ := bnd H
 refine wpFrom_loud _ rfl (rfl) fun K hK => ?_
 refine wp_call [.agg (K58c2 b w_ f d g e k l q m s o u)] _ b9 a6 rfl rfl (by decide) (by rfl) rfl (fun _ _ => by kernel_rfl) (control_worked_spans_ok n a6.has w_ ((rep_pair (rep_pair (rep_slice ac) (rep_pair (rep_pair rep_int rep_int) (rep_pair (rep_slice ad) (rep_pair (rep_slice ae) (rep_pair rep_int (rep_pair rep_int (rep_pair rep_int rep_int))))))) (rep_pair (rep_slice ag) (rep_pair (rep_slice ah) (rep_slice ai)))) : rep h w_ _) ex6) fun dh a3 c2 bt ax br => ?_
 replace ac := ac.mono ax
 replace ad := ad.mono ax
 replace ae := ae.mono ax
 replace ag := ag.mono ax
 replace ah := ah.mono ax
 replace ai := ai.mono ax
 obtain ⟨x, z, rfl, au⟩ := bt
 refine ⟨.one (.c (.slice x x6.length z)), rfl, fun cv (ca : Kn 22 [(p, 0)] [(tS 6 x x6.length z), (tA 5 (K58c2 b w_ f d g e k l q m s o u)), (tS 2 none 0 0), (tP 1 0 0)] cv) => hK _ _ ?_⟩
 refine R_runk 2 2 [8, 7, 6, 2, 1] [(tI 8 0), (tI 7 ((x6.length : Nat) : Int)), (tS 6 x x6.length z), (tS 2 none 0 0), (tP 1 0 0)] ca br.plOk (by kernel_rfl) fun dc cb => ?_
 refine wpFrom_end (by decide) ?_
 have cj : Mem ⟨w, h, noX⟩ a3 [(p, 0)] [⟨(K58c2 b w_ f d g e k l q m s o u), some 115⟩] [⟨none, 0, 0, 3, 1, [], 0⟩] c2 := br.nilRow 3 1
 have bx : Cells a3 ([] : List Int) [] := Cells.nil
 obtain ⟨am, bm, H⟩ := bnd H
 refine wp_mid' (fun a' w' => ∃ (an : Option Addr) (ap : Nat) (a1 : List Value) (bk : Array Value) (a4 : Heap), a' = ⟨bk, []⟩ ∧ Kn 22 [(p, 0)] [(tS 2 an am.length ap)] bk ∧ Mem ⟨w, h, noX⟩ a4 [(p, 0)] [⟨(K58c2 b w_ f d g e k l q m s o u), some 115⟩] [⟨an, am.length, ap, 3, 1, a1, 0⟩] w' ∧ Heap.le a3 a4 ∧ Cells a4 am a1) ?_ ?_
 ·
  refine wp_block ?_
  refine wp_loop_n (fun cq a' w' => ∃ (x_v10 : List Int) (x_v11 : Int) (y : Option Addr) (aa : Nat) (ak : List Value) (bl : Array Value) (aw : Heap), a' = ⟨bl, []⟩ ∧ Kn 22 [(p, 0)] [(tI 8 x_v11), (tI 7 ((x6.length : Nat) : Int)), (tS 6 x x6.length z), (tS 2 y x_v10.length aa), (tP 1 0 0)] bl ∧ Mem ⟨w, h, noX⟩ aw [(p, 0)] [⟨(K58c2 b w_ f d g e k l q m s o u), some 115⟩] [⟨y, x_v10.length, aa, 3, 1, ak, 0⟩] w' ∧ Heap.le a3 aw ∧ Cells aw x_v10 ak ∧ control_worked_waits_l1 cq w_ x6 x_v10 x_v11 = some am) n ?_ ?_
  ·
   exact Exists.intro ([] : List Int) ⟨0, none, 0, ([]), _, _, rfl, (cb.keep [8, 7, 6, 2, 1] (by rfl)), cj, (Heap.le_refl _), bx, bm⟩
  ·
   rintro a8 _ c3 ⟨x_v10, x_v11, y, aa, ak, bl, aw, rfl, cc, bi, aj, a5, ab⟩
   clear bm
   obtain _ | a8 := a8
   ·
    rw [control_worked_waits_l1] at ab; cases ab
   rw [control_worked_waits_l1] at ab
   replace ac := ac.mono aj
   replace ad := ad.mono aj
   replace ae := ae.mono aj
   replace ag := ag.mono aj
   replace ah := ah.mono aj
   replace ai := ai.mono aj
   replace au := au.mono aj
   refine wp_seq (wp_region_from (R_runk 0 1 [9, 8, 7, 6, 2, 1] [(tB 9 (decide (x_v11 < ((x6.length : Nat) : Int)))), (tI 8 x_v11), (tI 7 ((x6.length : Nat) : Int)), (tS 6 x x6.length z), (tS 2 y x_v10.length aa), (tP 1 0 0)] cc bi.plOk (by kernel_rfl) fun dd be => ?_))
   refine wpFrom_end (by decide) (wp_seq (wp_cond_sv (decide (x_v11 < ((x6.length : Nat) : Int))) be (by kernel_rfl) (fun bb => ?_) (fun bb => ?_)))
   ·
    rw [bb, cond_true] at ab
    refine wp_skip (wp_seq (wp_block (wp_seq (wp_region_from ?_))))
    obtain ⟨x10, ex10, ab⟩ := bnd ab
    obtain ⟨ck, cl, cp⟩ := idx_some ex10
    obtain ⟨ao, av, c5, bv, co, bz⟩ := au.get (by decide) cp
    obtain ⟨al, c6, c4, rfl, ba, a9⟩ := co
    have a7 : Mem ⟨w, h, noX⟩ aw [(p, 0), (ao, av + (x_v11 : Int).toNat * 1)] [⟨(K58c2 b w_ f d g e k l q m s o u), some 115⟩, ⟨[.map (some al)], none⟩] [⟨y, x_v10.length, aa, 3, 1, ak, 0⟩] c3 := bi.addPlc (cs := [.map (some al)]) (fun j c hj => bz j _ (map_get hj)) rfl (by kernel_rfl) (by kernel_rfl)
    refine R_index 0 (x_v11) rfl rfl (rfl) rfl (by decide) be (by rfl) (by rfl) (by rfl) bv (by rfl) ck cl (by kernel_rfl) fun cw (cd : Kn 22 [(p, 0), (ao, av + (x_v11 : Int).toNat * 1)] [(tP 10 1 0), (tB 9 (decide (x_v11 < ((x6.length : Nat) : Int)))), (tI 8 x_v11), (tI 7 ((x6.length : Nat) : Int)), (tS 6 x x6.length z), (tS 2 y x_v10.length aa), (tP 1 0 0)] cw) => ?_
    refine R_runk 1 2 [4, 8, 7, 6, 2, 1] [(4, .one (.c (.map (some al)))), (tI 8 x_v11), (tI 7 ((x6.length : Nat) : Int)), (tS 6 x x6.length z), (tS 2 y x_v10.length aa), (tP 1 0 0)] cd a7.plOk (by kernel_rfl) fun de ce => ?_
    refine wpFrom_end (by decide) (wp_region_from (R_runk 0 4 [15, 14, 12, 8, 7, 6, 1] [(15, .one (.c (.map (some al)))), (tA 14 (K58c1 b w_ f d g e k)), (tS 12 y x_v10.length aa), (tI 8 x_v11), (tI 7 ((x6.length : Nat) : Int)), (tS 6 x x6.length z), (tP 1 0 0)] ce a7.plOk (by kernel_rfl) fun df cf => ?_))
    obtain ⟨x16, ex16, ab⟩ := bnd ab
    refine wpFrom_loud _ rfl (rfl) fun K hK => ?_
    refine wp_call [.agg (K58c1 b w_ f d g e k), .c (.map (some al))] _ cf a7 rfl rfl (by decide) (by rfl) rfl (fun _ _ => by kernel_rfl) (control_Route_worstL_ok a8 a7.has w_.route ((rep_pair (rep_slice ac) (rep_pair (rep_pair rep_int rep_int) (rep_pair (rep_slice ad) (rep_pair (rep_slice ae) (rep_pair rep_int (rep_pair rep_int (rep_pair rep_int rep_int))))))) : rep aw w_.route _) x10 ba a9 ex16) fun di a0 dj bu af bs => ?_
    replace ac := ac.mono af
    replace ad := ad.mono af
    replace ae := ae.mono af
    replace ag := ag.mono af
    replace ah := ah.mono af
    replace ai := ai.mono af
    replace au := au.mono af
    replace a9 := a9.mono af
    replace a5 := a5.mono af
    replace ba := af _ _ _ ba
    obtain ⟨bo, rfl⟩ := bu
    refine ⟨.one (.agg [.int .i64 bo, .int .i64 x16]), rfl, fun cx (cg : Kn 22 [(p, 0), (ao, av + (x_v11 : Int).toNat * 1)] [(tA 16 [.int .i64 bo, .int .i64 x16]), (15, .one (.c (.map (some al)))), (tA 14 (K58c1 b w_ f d g e k)), (tS 12 y x_v10.length aa), (tI 8 x_v11), (tI 7 ((x6.length : Nat) : Int)), (tS 6 x x6.length z), (tP 1 0 0)] cx) => hK _ _ ?_⟩
    refine R_runk 5 1 [17, 12, 8, 7, 6, 1] [(tI 17 x16), (tS 12 y x_v10.length aa), (tI 8 x_v11), (tI 7 ((x6.length : Nat) : Int)), (tS 6 x x6.length z), (tP 1 0 0)] cg bs.plOk (by kernel_rfl) fun dg ch => ?_
    refine wpFrom_loud _ rfl (rfl) fun K hK => ?_
    refine wp_buildSlice 3 1 [.int .i64 x16] ch bs rfl rfl (by decide) (by kernel_rfl) (by rfl) (by rfl) rfl (by decide) fun a2 cr cy (b1 : Kn 22 [(p, 0), (ao, av + (x_v11 : Int).toNat * 1)] [(tS 18 a2 1 1), (tI 17 x16), (tS 12 y x_v10.length aa), (tI 8 x_v11), (tI 7 ((x6.length : Nat) : Int)), (tS 6 x x6.length z), (tP 1 0 0)] cr) (bq : Mem ⟨w, h, noX⟩ a0 [(p, 0), (ao, av + (x_v11 : Int).toNat * 1)] [⟨(K58c2 b w_ f d g e k l q m s o u), some 115⟩, ⟨[.map (some al)], none⟩] [⟨y, x_v10.length, aa, 3, 1, ak, 0⟩, ⟨a2, 1, 1, 3, 1, ([.int .i64 x16] : List Value), 0⟩] cy) => ?_
    have bc : Cells a0 ([x16] : List Int) ([.int .i64 x16] : List Value) := ⟨_, _, rfl, (rep_int : rep a0 (x16 : Int) _), rfl⟩
    refine hK _ _ ?_
    obtain ⟨x19, ex19, ab⟩ := bnd ab
    obtain ⟨bj, ci⟩ := app_some ex19
    refine wpFrom_loud _ rfl (rfl) fun K hK => ?_
    refine wp_append 0 8 1 _ (x19.length) _ ([.int .i64 x16] : List Value) b1 bq rfl rfl (by decide) rfl (by rfl) (by kernel_rfl) (by rfl) (by rfl) (Cells.len bc) (bq.rowCell (i := 1) rfl) bc.one (by rw [bj]; simp) (by rw [bj]; exact ci) (by decide) fun ay az bn ct cz b0 (b2 : Kn 22 [(p, 0), (ao, av + (x_v11 : Int).toNat * 1)] [(19, .one (.c (.slice ay x19.length az))), (18, .one (.c (.slice a2 1 1))), (17, .one (.c (.int .i64 x16))), (12, .one (.c (.slice y x_v10.length aa))), (8, .one (.c (.int .i64 x_v11))), (7, .one (.c (.int .i64 ((x6.length : Nat) : Int)))), (6, .one (.c (.slice x x6.length z))), (1, .one (.c (.ptr 0 0)))] ct) (bf : Mem ⟨w, h, noX⟩ a0 [(p, 0), (ao, av + (x_v11 : Int).toNat * 1)] [⟨[.slice b w_.route.legs.length f, .int .i64 w_.route.turn.lo, .int .i64 w_.route.turn.hi, .slice d w_.route.buses.length g, .slice e w_.route.spares.length k, .int .i64 w_.route.unit, .int .i64 w_.route.gap, .int .i64 w_.route.fr, .int .i64 w_.route.to_, .slice l w_.acts.holds.length q, .slice m w_.acts.turns.length s, .slice o w_.acts.spares.length u], some 115⟩, ⟨[.map (some al)], none⟩] [⟨ay, x19.length, az, 3, 1, (ak ++ ([.int .i64 x16] : List Value)), bn⟩, ⟨a2, 1, 1, 3, 1, ([.int .i64 x16] : List Value), 0⟩] cz) => ?_
    have bw : Cells a0 x19 (ak ++ ([.int .i64 x16] : List Value)) := by rw [bj]; exact Cells.append a5 bc
    obtain rfl : bn = 0 := Nat.le_zero.1 b0
    refine hK _ _ ?_
    refine R_runk 8 1 [2, 8, 7, 6, 1] [(tS 2 ay x19.length az), (tI 8 x_v11), (tI 7 ((x6.length : Nat) : Int)), (tS 6 x x6.length z), (tP 1 0 0)] b2 bf.plOk (by kernel_rfl) fun c7 b3 => ?_
    refine wpFrom_end (by decide) (wp_region_from (R_runk 0 2 [8, 2, 7, 6, 1] [(tI 8 (IntKind.i64.wrap (x_v11 + 1))), (tS 2 ay x19.length az), (tI 7 ((x6.length : Nat) : Int)), (tS 6 x x6.length z), (tP 1 0 0)] b3 bf.plOk (by kernel_rfl) fun c8 b4 => ?_))
    refine wpFrom_end (by decide) ?_
    exact Exists.intro a8 ⟨Nat.lt_succ_self _, Exists.intro x19 ⟨(IntKind.i64.wrap (x_v11 + 1)), ay, az, (ak ++ ([.int .i64 x16] : List Value)), _, _, rfl, ((b4.keep [8, 7, 6, 2, 1] (by rfl)).cut 1 (by kernel_rfl)), ((bf.cutRw 1).cutPl 1 (by kernel_rfl)), (Heap.le_trans aj af), bw, ab⟩⟩
   ·
    rw [bb, cond_false] at ab
    refine wp_exit ?_
    obtain rfl := Option.some.inj ab
    exact Exists.intro y ⟨aa, ak, _, _, rfl, (be.keep [2] (by rfl)), bi, aj, a5⟩
 ·
  rintro _ c0 ⟨an, ap, a1, bk, a4, rfl, b5, bg, aq, bd⟩
  replace ac := ac.mono aq
  replace ad := ad.mono aq
  replace ae := ae.mono aq
  replace ag := ag.mono aq
  replace ah := ah.mono aq
  replace ai := ai.mono aq
  replace au := au.mono aq
  refine wp_seq (wp_region_from (R_runk 0 2 [2] [(tS 2 an am.length ap)] b5 bg.plOk (by kernel_rfl) fun c9 b6 => ?_))
  refine wpFrom_end (by decide) (wp_ret ?_)
  obtain ⟨bp, ar, cn, bh⟩ := bg.settle (i := 0) rfl
  replace ac := ac.mono ar
  replace ad := ad.mono ar
  replace ae := ae.mono ar
  replace ag := ag.mono ar
  replace ah := ah.mono ar
  replace ai := ai.mono ar
  replace bd := bd.mono ar
  replace bh : Mem ⟨w, h, noX⟩ bp [(p, 0)] [⟨(K58c2 b w_ f d g e k l q m s o u), some 115⟩] [⟨an, am.length, ap, 3, 1, a1, (a1 : List Value).length⟩] c0 := bh
  have cm : RepS bp an ap am := ⟨_, bd, cn, bg.rowCap (i := 0) rfl⟩
  obtain rfl := Option.some.inj H
  exact ret_ok (.one (.c (.slice an am.length ap))) b6 bh (by kernel_rfl) ⟨_, _, rfl, cm⟩

abbrev K53c1 : List SC := [.slice none 0 0, .int .i64 0, .int .i64 0, .slice none 0 0, .slice none 0 0, .int .i64 0, .int .i64 0, .int .i64 0, .int .i64 0, .slice none 0 0, .slice none 0 0, .slice none 0 0]
abbrev K53c2 (a : Option Addr) (r_ : Route) (f : Nat) (b : Option Addr) (g : Nat) (e : Option Addr) (i : Nat) : List SC := [.slice a r_.legs.length f, .int .i64 r_.turn.lo, .int .i64 r_.turn.hi, .slice b r_.buses.length g, .slice e r_.spares.length i, .int .i64 r_.unit, .int .i64 r_.gap, .int .i64 r_.fr, .int .i64 r_.to_]
abbrev K53c3 (d : Deeds) : List SC := [.int .i64 d.holds.a0, .int .i64 d.holds.a1, .int .i64 d.holds.a2, .int .i64 d.holds.a3, .int .i64 d.turns.a0, .int .i64 d.turns.a1, .int .i64 d.turns.a2, .int .i64 d.turns.a3, .bool d.spares.a0, .bool d.spares.a1]
abbrev K53c4 (a : Option Addr) (r_ : Route) (f : Nat) (b : Option Addr) (g : Nat) (e : Option Addr) (i : Nat) (q : Option Addr) (x14 : Acts) (y : Nat) (s : Option Addr) (z : Nat) (u : Option Addr) (aa : Nat) : List SC := [.slice a r_.legs.length f, .int .i64 r_.turn.lo, .int .i64 r_.turn.hi, .slice b r_.buses.length g, .slice e r_.spares.length i, .int .i64 r_.unit, .int .i64 r_.gap, .int .i64 r_.fr, .int .i64 r_.to_, .slice q x14.holds.length y, .slice s x14.turns.length z, .slice u x14.spares.length aa]
abbrev K53p5 (a : Option Addr) (r_ : Route) (f : Nat) (b : Option Addr) (g : Nat) (e : Option Addr) (i : Nat) (d : Deeds) : List Plc := [⟨(K53c2 a r_ f b g e i), some 43⟩, ⟨(K53c3 d), some 102⟩, ⟨K53c1, some 115⟩]
abbrev K53m6 (x17 : List (IMap Int Rg)) (ac : Option Addr) (ad : Nat) (most : Int) : TM := [(tI 18 ((x17.length : Nat) : Int)), (tS 17 ac x17.length ad), (tB 8 true), (tP 3 0 0), (tI 2 most)]
abbrev K53m7 (a : Option Addr) (r_ : Route) (f : Nat) (b : Option Addr) (g : Nat) (e : Option Addr) (i : Nat) (d : Deeds) (most : Int) : TM := [(tA 13 (K53c2 a r_ f b g e i)), (tA 12 (K53c3 d)), (tA 11 (K53c2 a r_ f b g e i)), (tP 3 0 0), (tI 2 most)]
set_option maxRecDepth 100000 in
set_option maxHeartbeats 4000000 in
theorem control_Route_keeps_ok (n : Nat) {h : Heap} {w : World} (hh : Has h w) (r_ : Route) {cs_r_ : List Value} (hx_r_ : rep h r_ cs_r_) (d : Deeds) {cs_d : List Value} (hx_d : rep h d cs_d) (most : Int) {r : Bool} (H : control_Route_keeps n r_ d most = some r) :
  Calls Try.prog 53 #[.agg cs_r_.toArray, .agg cs_d.toArray, .int .i64 most] w (Ret (fun h v => v = .bool r) h w) := by
 obtain ⟨_, _, rfl, ⟨a, f, rfl, m⟩, ⟨_, _, rfl, ⟨_, _, rfl, rfl, rfl⟩, ⟨_, _, rfl, ⟨b, g, rfl, o⟩, ⟨_, _, rfl, ⟨e, i, rfl, p⟩, ⟨_, _, rfl, rfl, ⟨_, _, rfl, rfl, ⟨_, _, rfl, rfl, rfl⟩⟩⟩⟩⟩⟩⟩ := hx_r_
 obtain ⟨_, _, rfl, ⟨_, _, rfl, rfl, ⟨_, _, rfl, rfl, ⟨_, _, rfl, rfl, rfl⟩⟩⟩, ⟨_, _, rfl, ⟨_, _, rfl, rfl, ⟨_, _, rfl, rfl, ⟨_, _, rfl, rfl, rfl⟩⟩⟩, ⟨_, _, rfl, rfl, rfl⟩⟩⟩ := hx_d
 refine enter 31 [.agg (K53c2 a r_ f b g e i), .agg (K53c3 d), .c (.int .i64 most)] Try.func53 rfl rfl rfl rfl fun t hk => ?_
 have hm := Mem.begin h w hh
 unfold control_Route_keeps at H
 refine wp_seq (wp_region_from (wpFrom_loud _ rfl (rfl) fun K hK => ?_))
 refine wp_box (.agg (K53c2 a r_ f b g e i)) hk hm rfl rfl (by decide) (by kernel_rfl) (by kernel_rfl) (by kernel_rfl) fun k di dr (cj : Kn 31 [(k, 0)] [(tP 3 0 0), (tA 0 (K53c2 a r_ f b g e i)), (tA 1 (K53c3 d)), (tI 2 most)] di) (c4 : Mem ⟨w, h, noX⟩ h [(k, 0)] [⟨(K53c2 a r_ f b g e i), some 43⟩] [] dr) => hK _ _ ?_
 refine wpFrom_loud _ rfl (rfl) fun K hK => ?_
 refine wp_box (.agg (K53c3 d)) cj c4 rfl rfl (by decide) (by kernel_rfl) (by kernel_rfl) (by kernel_rfl) fun l dm du (cq : Kn 31 [(k, 0), (l, 0)] [(tP 4 1 0), (tP 3 0 0), (tA 0 (K53c2 a r_ f b g e i)), (tA 1 (K53c3 d)), (tI 2 most)] dm) (al : Mem ⟨w, h, noX⟩ h [(k, 0), (l, 0)] [⟨(K53c2 a r_ f b g e i), some 43⟩, ⟨(K53c3 d), some 102⟩] [] du) => hK _ _ ?_
 refine R_runk 2 1 [4, 3, 2] [(tP 4 1 0), (tP 3 0 0), (tI 2 most)] cq al.plOk (by kernel_rfl) fun d8 cr => ?_
 refine wpFrom_end (by decide) (wp_scope_straight (wp_seq (wp_region_G (by kernel_rfl) ?_)))
 replace al := al.drew
 refine wpG_of_D [] [(k, 0), (l, 0)] [⟨(K53c2 a r_ f b g e i), some 43⟩, ⟨(K53c3 d), some 102⟩] ?_
 refine D_run [0, 1, 2] [2, 1, 0] [13, 12, 11, 3, 2] (K53m7 a r_ f b g e i d most) (fun _ _ _ _ _ h => h) cr al.plOk (by kernel_rfl) (by rfl) (by kernel_rfl) fun d9 b2 => ?_
 obtain ⟨x14, ex14, H⟩ := bnd H
 refine D_share (fun W => ∀ (x : Nat), ∀ (q : Option Addr), ∀ (y : Nat), ∀ (s : Option Addr), ∀ (z : Nat), ∀ (u : Option Addr), ∀ (aa : Nat), ∀ a' w', (∃ (bh : Array Value) (aj : Heap), a' = ⟨bh, []⟩ ∧ Kn 31 [(k, 0), (l, 0), (x, 0)] [(tP 7 2 0), (tA 15 (K53c4 a r_ f b g e i q x14 y s z u aa)), (tP 3 0 0), (tI 2 most)] bh ∧ Mem ⟨w, h, noX⟩ aj [(k, 0), (l, 0), (x, 0)] (K53p5 a r_ f b g e i d) [] w' ∧ Heap.le h aj ∧ RepS aj q y x14.holds ∧ RepS aj s z x14.turns ∧ RepS aj u aa x14.spares) → W [(k, 0), (l, 0), (x, 0)] (K53p5 a r_ f b g e i d) [4, 3, 5, 2, 1, 0] a' w') ?_ (fun b6 => ?_)
 ·
  intro x q y s z u aa
  rintro _ eo ⟨bh, aj, rfl, ct, c5, bq, ag, ah, ai⟩
  replace m := m.mono bq
  replace o := o.mono bq
  replace p := p.mono bq
  refine D_sync 6 rfl (by kernel_rfl) (by decide) (rfl) (by kernel_rfl) fun K hK => ?_
  refine wp_store 2 0 (.agg (K53c4 a r_ f b g e i q x14 y s z u aa)) (K53c4 a r_ f b g e i q x14 y s z u aa) ct c5 rfl rfl (by rfl) (by rfl) (by rfl) (by kernel_rfl) (by kernel_rfl) (by rfl) fun dv cu (bd : Mem ⟨w, h, noX⟩ aj [(k, 0), (l, 0), (x, 0)] [⟨(K53c2 a r_ f b g e i), some 43⟩, ⟨(K53c3 d), some 102⟩, ⟨(K53c4 a r_ f b g e i q x14 y s z u aa), some 115⟩] [] dv) => hK _ _ ?_
  refine wpG_of_D [] [(k, 0), (l, 0), (x, 0)] [⟨(K53c2 a r_ f b g e i), some 43⟩, ⟨(K53c3 d), some 102⟩, ⟨(K53c4 a r_ f b g e i q x14 y s z u aa), some 115⟩] ?_
  have cv : Kn 31 [(k, 0), (l, 0), (x, 0)] [(tP 7 2 0), (tP 3 0 0), (tI 2 most)] bh := cu.keep [7, 3, 2] (by rfl)
  refine wpD_end (by kernel_rfl) (wp_seq (wp_region_from (R_runk 0 1 [8, 7, 3, 2] [(tB 8 true), (tP 7 2 0), (tP 3 0 0), (tI 2 most)] cv bd.plOk (by kernel_rfl) fun ea cw => ?_)))
  refine wpFrom_end (by decide) (wp_seq (wp_label (wp_seq (wp_seq (wp_region_from (R_runk 0 1 [16, 8, 3, 2] [(tA 16 (K53c4 a r_ f b g e i q x14 y s z u aa)), (tB 8 true), (tP 3 0 0), (tI 2 most)] cw bd.plOk (by kernel_rfl) fun eb cx => ?_))))))
  obtain ⟨x17, ex17, H⟩ := bnd H
  refine wpFrom_loud _ rfl (rfl) fun K hK => ?_
  refine wp_call [.agg (K53c4 a r_ f b g e i q x14 y s z u aa)] _ cx bd rfl rfl (by decide) (by rfl) rfl (fun _ _ => by kernel_rfl) (control_worked_spans_ok n bd.has (Worked.mk r_ x14) ((rep_pair (rep_pair (rep_slice m) (rep_pair (rep_pair rep_int rep_int) (rep_pair (rep_slice o) (rep_pair (rep_slice p) (rep_pair rep_int (rep_pair rep_int (rep_pair rep_int rep_int))))))) (rep_pair (rep_slice ag) (rep_pair (rep_slice ah) (rep_slice ai)))) : rep aj (Worked.mk r_ x14) _) ex17) fun ej b1 ep ca ao b5 => ?_
  replace m := m.mono ao
  replace o := o.mono ao
  replace p := p.mono ao
  replace ag := ag.mono ao
  replace ah := ah.mono ao
  replace ai := ai.mono ao
  obtain ⟨ac, ad, rfl, am⟩ := ca
  refine ⟨.one (.c (.slice ac x17.length ad)), rfl, fun dp (cy : Kn 31 [(k, 0), (l, 0), (x, 0)] [(tS 17 ac x17.length ad), (tA 16 (K53c4 a r_ f b g e i q x14 y s z u aa)), (tB 8 true), (tP 3 0 0), (tI 2 most)] dp) => hK _ _ ?_⟩
  refine R_runk 2 2 [19, 18, 17, 8, 3, 2] ((tI 19 0) :: (K53m6 x17 ac ad most)) cy b5.plOk (by kernel_rfl) fun ec cz => ?_
  refine wpFrom_end (by decide) ?_
  obtain ⟨bg, bz, H⟩ := bnd H
  refine wp_mid' (fun a' w' => ∃ (bw : Array Value) (bl : Heap), a' = ⟨bw, []⟩ ∧ Kn 31 [(k, 0), (l, 0), (x, 0)] [(tB 8 bg)] bw ∧ Mem ⟨w, h, noX⟩ bl [(k, 0), (l, 0), (x, 0)] [⟨(K53c2 a r_ f b g e i), some 43⟩, ⟨(K53c3 d), some 102⟩, ⟨(K53c4 a r_ f b g e i q x14 y s z u aa), some 115⟩] [] w' ∧ Heap.le b1 bl) ?_ ?_
  ·
   refine wp_block ?_
   refine wp_loop_n (fun dg a' w' => ∃ (x_v10 : Int) (bx : Array Value) (ay : Heap), a' = ⟨bx, []⟩ ∧ Kn 31 [(k, 0), (l, 0), (x, 0)] ((tI 19 x_v10) :: (K53m6 x17 ac ad most)) bx ∧ Mem ⟨w, h, noX⟩ ay [(k, 0), (l, 0), (x, 0)] [⟨(K53c2 a r_ f b g e i), some 43⟩, ⟨(K53c3 d), some 102⟩, ⟨(K53c4 a r_ f b g e i q x14 y s z u aa), some 115⟩] [] w' ∧ Heap.le b1 ay ∧ control_Route_keeps_l1 dg r_ most x17 x_v10 = some bg) n ?_ ?_
   ·
    exact Exists.intro 0 ⟨_, _, rfl, (cz.keep [19, 18, 17, 8, 3, 2] (by rfl)), b5, (Heap.le_refl _), bz⟩
   ·
    rintro bf _ dw ⟨x_v10, bx, ay, rfl, c0, bu, af, ab⟩
    clear bz
    obtain _ | bf := bf
    ·
     rw [control_Route_keeps_l1] at ab; cases ab
    rw [control_Route_keeps_l1] at ab
    replace m := m.mono af
    replace o := o.mono af
    replace p := p.mono af
    replace ag := ag.mono af
    replace ah := ah.mono af
    replace ai := ai.mono af
    replace am := am.mono af
    refine wp_seq (wp_region_from (R_runk 0 1 [20, 19, 18, 17, 8, 3, 2] ((tB 20 (decide (x_v10 < ((x17.length : Nat) : Int)))) :: (tI 19 x_v10) :: (K53m6 x17 ac ad most)) c0 bu.plOk (by kernel_rfl) fun ed bp => ?_))
    refine wpFrom_end (by decide) (wp_seq (wp_cond_sv (decide (x_v10 < ((x17.length : Nat) : Int))) bp (by kernel_rfl) (fun bn => ?_) (fun bn => ?_)))
    ·
     rw [bn, cond_true] at ab
     refine wp_skip (wp_seq (wp_block (wp_seq (wp_region_from ?_))))
     obtain ⟨x21, ex21, ab⟩ := bnd ab
     obtain ⟨c6, c7, df⟩ := idx_some ex21
     obtain ⟨bi, bv, dy, cc, de, cd⟩ := am.get (by decide) df
     obtain ⟨an, dz, dx, rfl, bk, bj⟩ := de
     have be : Mem ⟨w, h, noX⟩ ay [(k, 0), (l, 0), (x, 0), (bi, bv + (x_v10 : Int).toNat * 1)] [⟨(K53c2 a r_ f b g e i), some 43⟩, ⟨(K53c3 d), some 102⟩, ⟨(K53c4 a r_ f b g e i q x14 y s z u aa), some 115⟩, ⟨[.map (some an)], none⟩] [] dw := bu.addPlc (cs := [.map (some an)]) (fun j c hj => cd j _ (map_get hj)) rfl (by kernel_rfl) (by kernel_rfl)
     refine R_index 0 (x_v10) rfl rfl (rfl) rfl (by decide) bp (by rfl) (by rfl) (by rfl) cc (by rfl) c6 c7 (by kernel_rfl) fun dq (c1 : Kn 31 [(k, 0), (l, 0), (x, 0), (bi, bv + (x_v10 : Int).toNat * 1)] ((tP 21 3 0) :: (tB 20 (decide (x_v10 < ((x17.length : Nat) : Int)))) :: (tI 19 x_v10) :: (K53m6 x17 ac ad most)) dq) => ?_
     refine R_runk 1 2 [10, 19, 18, 17, 8, 3, 2] ((10, .one (.c (.map (some an)))) :: (tI 19 x_v10) :: (K53m6 x17 ac ad most)) c1 be.plOk (by kernel_rfl) fun ee c2 => ?_
     refine wpFrom_end (by decide) (wp_seq (wp_region_from (R_runk 0 2 [24, 23, 19, 18, 17, 8, 3, 2] ((24, .one (.c (.map (some an)))) :: (tA 23 (K53c2 a r_ f b g e i)) :: (tI 19 x_v10) :: (K53m6 x17 ac ad most)) c2 be.plOk (by kernel_rfl) fun ef c3 => ?_)))
     obtain ⟨x25, ex25, ab⟩ := bnd ab
     refine wpFrom_loud _ rfl (rfl) fun K hK => ?_
     refine wp_call [.agg (K53c2 a r_ f b g e i), .c (.map (some an))] _ c3 be rfl rfl (by decide) (by rfl) rfl (fun _ _ => by kernel_rfl) (control_Route_worstL_ok bf be.has r_ ((rep_pair (rep_slice m) (rep_pair (rep_pair rep_int rep_int) (rep_pair (rep_slice o) (rep_pair (rep_slice p) (rep_pair rep_int (rep_pair rep_int (rep_pair rep_int rep_int))))))) : rep ay r_ _) x21 bk bj ex25) fun eg d0 ek b7 ae az => ?_
     replace m := m.mono ae
     replace o := o.mono ae
     replace p := p.mono ae
     replace ag := ag.mono ae
     replace ah := ah.mono ae
     replace ai := ai.mono ae
     replace am := am.mono ae
     replace bj := bj.mono ae
     replace bk := ae _ _ _ bk
     obtain ⟨b0, rfl⟩ := b7
     refine ⟨.one (.agg [.int .i64 b0, .int .i64 x25]), rfl, fun dh (ce : Kn 31 [(k, 0), (l, 0), (x, 0), (bi, bv + (x_v10 : Int).toNat * 1)] ((tA 25 [.int .i64 b0, .int .i64 x25]) :: (24, .one (.c (.map (some an)))) :: (tA 23 (K53c2 a r_ f b g e i)) :: (tI 19 x_v10) :: (K53m6 x17 ac ad most)) dh) => hK _ _ ?_⟩
     refine R_runk 3 3 [28, 19, 18, 17, 8, 3, 2] ((tB 28 (decide (x25 > most))) :: (tI 19 x_v10) :: (K53m6 x17 ac ad most)) ce az.plOk (by kernel_rfl) fun d2 bo => ?_
     refine wpFrom_end (by decide) (wp_cond_sv (decide (x25 > most)) bo (by kernel_rfl) (fun bm => ?_) (fun bm => ?_))
     ·
      rw [bm, cond_true] at ab
      refine wp_seq (wp_region_from (R_runk 0 1 [8] [(tB 8 false)] bo az.plOk (by kernel_rfl) fun d3 cf => ?_))
      refine wpFrom_end (by decide) (wp_exit ?_)
      obtain rfl := Option.some.inj ab
      exact Exists.intro _ ⟨_, rfl, ((cf.keep [8] (by rfl)).cut 3 (by kernel_rfl)), (az.cutPl 3 (by kernel_rfl)), (Heap.le_trans af ae)⟩
     ·
      rw [bm, cond_false] at ab
      refine wp_skip (wp_region_from (R_runk 0 2 [19, 18, 17, 8, 3, 2] ((tI 19 (IntKind.i64.wrap (x_v10 + 1))) :: (K53m6 x17 ac ad most)) bo az.plOk (by kernel_rfl) fun d4 cg => ?_))
      refine wpFrom_end (by decide) ?_
      exact Exists.intro bf ⟨Nat.lt_succ_self _, Exists.intro (IntKind.i64.wrap (x_v10 + 1)) ⟨_, _, rfl, ((cg.keep [19, 18, 17, 8, 3, 2] (by rfl)).cut 3 (by kernel_rfl)), (az.cutPl 3 (by kernel_rfl)), (Heap.le_trans af ae), ab⟩⟩
    ·
     rw [bn, cond_false] at ab
     refine wp_exit ?_
     obtain rfl := Option.some.inj ab
     exact Exists.intro _ ⟨_, rfl, (bp.keep [8] (by rfl)), bu, af⟩
  ·
   rintro _ el ⟨bw, bl, rfl, ch, b3, ak⟩
   replace m := m.mono ak
   replace o := o.mono ak
   replace p := p.mono ak
   replace ag := ag.mono ak
   replace ah := ah.mono ak
   replace ai := ai.mono ak
   replace am := am.mono ak
   refine wp_seq (wp_region_from (R_runk 0 2 [6] [(tB 6 bg)] ch b3.plOk (by kernel_rfl) fun d5 ci => ?_))
   refine wpFrom_end (by decide) (wp_ret ?_)
   obtain rfl := Option.some.inj H
   exact ret_ok (.one (.c (.bool bg))) ci b3 (by kernel_rfl) rfl
 refine D_two 3 5 rfl rfl (by kernel_rfl) (by decide) (rfl) (rfl) (fun K hK => ?_) (fun K hK => ?_)
 ·
  refine wp_call [.agg (K53c3 d), .agg (K53c2 a r_ f b g e i)] _ b2 al rfl rfl (by decide) (by rfl) rfl (fun _ _ => by kernel_rfl) (control_deeds_acts_ok n al.has d ((rep_pair (rep_pair rep_int (rep_pair rep_int (rep_pair rep_int rep_int))) (rep_pair (rep_pair rep_int (rep_pair rep_int (rep_pair rep_int rep_int))) (rep_pair rep_bool rep_bool))) : rep h d _) r_ ((rep_pair (rep_slice m) (rep_pair (rep_pair rep_int rep_int) (rep_pair (rep_slice o) (rep_pair (rep_slice p) (rep_pair rep_int (rep_pair rep_int (rep_pair rep_int rep_int))))))) : rep h r_ _) ex14) fun eh cb em b8 bb br => ?_
  replace m := m.mono bb
  replace o := o.mono bb
  replace p := p.mono bb
  obtain ⟨_, rfl, ⟨_, _, rfl, ⟨ap, av, rfl, c8⟩, ⟨_, _, rfl, ⟨aq, aw, rfl, c9⟩, ⟨ar, ax, rfl, da⟩⟩⟩⟩ := b8
  refine ⟨.one (.agg [.slice ap x14.holds.length av, .slice aq x14.turns.length aw, .slice ar x14.spares.length ax]), rfl, fun dj (ck : Kn 31 [(k, 0), (l, 0)] ((tA 14 [.slice ap x14.holds.length av, .slice aq x14.turns.length aw, .slice ar x14.spares.length ax]) :: (K53m7 a r_ f b g e i d most)) dj) => hK _ _ br.plOk ?_⟩
  refine D_run [4] [4, 3, 2, 1, 0] [15, 3, 2] [(tA 15 [.slice a r_.legs.length f, .int .i64 r_.turn.lo, .int .i64 r_.turn.hi, .slice b r_.buses.length g, .slice e r_.spares.length i, .int .i64 r_.unit, .int .i64 r_.gap, .int .i64 r_.fr, .int .i64 r_.to_, .slice ap x14.holds.length av, .slice aq x14.turns.length aw, .slice ar x14.spares.length ax]), (tP 3 0 0), (tI 2 most)] (fun _ _ _ _ _ h => h) ck br.plOk (by kernel_rfl) (by rfl) (by kernel_rfl) fun d6 cl => ?_
  refine D_loud 5 rfl (by kernel_rfl) (by decide) (rfl) fun K hK => ?_
  refine wp_alloc K53c1 cl br rfl rfl (by decide) (by kernel_rfl) (by kernel_rfl) (by kernel_rfl) fun a7 dk ds (cm : Kn 31 [(k, 0), (l, 0), (a7, 0)] [(tP 7 2 0), (tA 15 [.slice a r_.legs.length f, .int .i64 r_.turn.lo, .int .i64 r_.turn.hi, .slice b r_.buses.length g, .slice e r_.spares.length i, .int .i64 r_.unit, .int .i64 r_.gap, .int .i64 r_.fr, .int .i64 r_.to_, .slice ap x14.holds.length av, .slice aq x14.turns.length aw, .slice ar x14.spares.length ax]), (tP 3 0 0), (tI 2 most)] dk) (b4 : Mem ⟨w, h, noX⟩ cb [(k, 0), (l, 0), (a7, 0)] (K53p5 a r_ f b g e i d) [] ds) => hK _ _ (PlOk.pop (Nat.le_of_eq rfl) (by kernel_rfl) b4.plOk) (D_ext (e' := [(k, 0), (l, 0), (a7, 0)]) (pl' := (K53p5 a r_ f b g e i d)) (fun _ hp => hp.pop (Nat.le_of_eq rfl) (by kernel_rfl)) ?_)
  refine D_perm [4, 3, 5, 2, 1, 0] (by kernel_rfl) (by rfl) (b6 a7 ap av aq aw ar ax _ _ ?_)
  exact Exists.intro _ ⟨_, rfl, (cm.keep [7, 15, 3, 2] (by rfl)), b4, bb, c8, c9, da⟩
 ·
  refine wp_alloc K53c1 b2 al rfl rfl (by decide) (by kernel_rfl) (by kernel_rfl) (by kernel_rfl) fun au dl dt (cn : Kn 31 [(k, 0), (l, 0), (au, 0)] ((tP 7 2 0) :: (K53m7 a r_ f b g e i d most)) dl) (bs : Mem ⟨w, h, noX⟩ h [(k, 0), (l, 0), (au, 0)] (K53p5 a r_ f b g e i d) [] dt) => hK _ _ (PlOk.pop (Nat.le_of_eq rfl) (by kernel_rfl) bs.plOk) (D_ext (e' := [(k, 0), (l, 0), (au, 0)]) (pl' := (K53p5 a r_ f b g e i d)) (fun _ hp => hp.pop (Nat.le_of_eq rfl) (by kernel_rfl)) ?_)
  refine D_loud 3 rfl (by kernel_rfl) (by decide) (rfl) fun K hK => ?_
  refine wp_call [.agg (K53c3 d), .agg (K53c2 a r_ f b g e i)] _ cn bs rfl rfl (by decide) (by rfl) rfl (fun _ _ => by kernel_rfl) (control_deeds_acts_ok n bs.has d ((rep_pair (rep_pair rep_int (rep_pair rep_int (rep_pair rep_int rep_int))) (rep_pair (rep_pair rep_int (rep_pair rep_int (rep_pair rep_int rep_int))) (rep_pair rep_bool rep_bool))) : rep h d _) r_ ((rep_pair (rep_slice m) (rep_pair (rep_pair rep_int rep_int) (rep_pair (rep_slice o) (rep_pair (rep_slice p) (rep_pair rep_int (rep_pair rep_int (rep_pair rep_int rep_int))))))) : rep h r_ _) ex14) fun ei d1 en b9 bc bt => ?_
  replace m := m.mono bc
  replace o := o.mono bc
  replace p := p.mono bc
  obtain ⟨_, rfl, ⟨_, _, rfl, ⟨a4, a8, rfl, db⟩, ⟨_, _, rfl, ⟨a5, a9, rfl, dc⟩, ⟨a6, ba, rfl, dd⟩⟩⟩⟩ := b9
  refine ⟨.one (.agg [.slice a4 x14.holds.length a8, .slice a5 x14.turns.length a9, .slice a6 x14.spares.length ba]), rfl, fun dn (co : Kn 31 [(k, 0), (l, 0), (au, 0)] ((tA 14 [.slice a4 x14.holds.length a8, .slice a5 x14.turns.length a9, .slice a6 x14.spares.length ba]) :: (tP 7 2 0) :: (K53m7 a r_ f b g e i d most)) dn) => hK _ _ bt.plOk ?_⟩
  refine D_run [4] [4, 3, 5, 2, 1, 0] [15, 7, 3, 2] [(tA 15 [.slice a r_.legs.length f, .int .i64 r_.turn.lo, .int .i64 r_.turn.hi, .slice b r_.buses.length g, .slice e r_.spares.length i, .int .i64 r_.unit, .int .i64 r_.gap, .int .i64 r_.fr, .int .i64 r_.to_, .slice a4 x14.holds.length a8, .slice a5 x14.turns.length a9, .slice a6 x14.spares.length ba]), (tP 7 2 0), (tP 3 0 0), (tI 2 most)] (fun _ _ _ _ _ h => h) co bt.plOk (by kernel_rfl) (by rfl) (by kernel_rfl) fun d7 cp => ?_
  refine D_perm [4, 3, 5, 2, 1, 0] (by kernel_rfl) (by rfl) (b6 au a4 a8 a5 a9 a6 ba _ _ ?_)
  exact Exists.intro _ ⟨_, rfl, (cp.keep [7, 15, 3, 2] (by rfl)), bt, bc, db, dc, dd⟩
end Go.Proofs.Ytokchpjijlebiaa
