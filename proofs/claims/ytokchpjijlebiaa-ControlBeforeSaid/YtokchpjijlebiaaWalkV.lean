/- Each call computes its plain function: printed by dec.py. -/
import Derived.Test.YtokchpjijlebiaaProg
import Derived.Test.YtokchpjijlebiaaPure
import Derived.Test.YtokchpjijlebiaaWalkP
import Derived.Test.YtokchpjijlebiaaWalkR
import Derived.Test.YtokchpjijlebiaaWalkU
set_option linter.all false
namespace Go.Proofs.Ytokchpjijlebiaa
open Go Go.RowKit
open Rep (rep)
open KRep (kv)
open VRep (rv)
abbrev K65c1 (a0 : Option Addr) (x59 : Times) (a1 : Nat) : List SC := [.slice a0 x59.legs.length a1, .int .i64 x59.turn]
abbrev K65c2 (bj : Option Addr) (x80 : Times) (bl : Nat) : List SC := [.slice bj x80.legs.length bl, .int .i64 x80.turn]
abbrev K65c3 (x52 : Trip) : List SC := [.int .i64 x52.stop, .int .i64 x52.tm, .int .i64 x52.turned]
abbrev K65c4 (x76 : Trip) : List SC := [.int .i64 x76.stop, .int .i64 x76.tm, .int .i64 x76.turned]
abbrev K65e5 (d f ae af : Nat) (x_v21 : Int) (ag ah : Nat) : Env := [(d, 0), (f, 0), (ae, af + (x_v21 : Int).toNat * 3), (ag, 0), (ah, 0)]
abbrev K65e6 (d f ae af : Nat) (x_v21 : Int) (ag ah ai aj : Nat) : Env := [(d, 0), (f, 0), (ae, af + (x_v21 : Int).toNat * 3), (ag, 0), (ah, 0), (ai, aj + (x_v21 : Int).toNat * 2)]
abbrev K65e7 (d f ae af : Nat) (x_v21 : Int) (ag ah ai aj cz : Nat) (x62 : Int) : Env := [(d, 0), (f, 0), (ae, af + (x_v21 : Int).toNat * 3), (ag, 0), (ah, 0), (ai, aj + (x_v21 : Int).toNat * 2), (cz, 0 + (x62 : Int).toNat * 1)]
abbrev K65e8 (d f ae af : Nat) (x_v21 : Int) (ag ah ai aj a3 a5 a7 a8 : Nat) : Env := [(d, 0), (f, 0), (ae, af + (x_v21 : Int).toNat * 3), (ag, 0), (ah, 0), (ai, aj + (x_v21 : Int).toNat * 2), (a3, a5 + (x_v21 : Int).toNat * 3), (a7, a8 + (x_v21 : Int).toNat * 2)]
abbrev K65c9 (g : Option Addr) (w_ : Worked) (p : Nat) (l : Option Addr) (q : Nat) (o : Option Addr) (u : Nat) : List SC := [.slice g w_.route.legs.length p, .int .i64 w_.route.turn.lo, .int .i64 w_.route.turn.hi, .slice l w_.route.buses.length q, .slice o w_.route.spares.length u, .int .i64 w_.route.unit, .int .i64 w_.route.gap, .int .i64 w_.route.fr, .int .i64 w_.route.to_]
abbrev K65e10 (d f ae af : Nat) (x_v21 : Int) (ag ah ai aj a3 a5 a7 a8 cf : Nat) (x83 : Int) (cr : Nat) : Env := [(d, 0), (f, 0), (ae, af + (x_v21 : Int).toNat * 3), (ag, 0), (ah, 0), (ai, aj + (x_v21 : Int).toNat * 2), (a3, a5 + (x_v21 : Int).toNat * 3), (a7, a8 + (x_v21 : Int).toNat * 2), (cf, 0 + (x83 : Int).toNat * 1), (cr, 0 + (x83 : Int).toNat * 1)]
abbrev K65c11 (g : Option Addr) (w_ : Worked) (p : Nat) (l : Option Addr) (q : Nat) (o : Option Addr) (u : Nat) (y : Option Addr) (ab : Nat) (z : Option Addr) (ac : Nat) (aa : Option Addr) (ad : Nat) : List SC := [.slice g w_.route.legs.length p, .int .i64 w_.route.turn.lo, .int .i64 w_.route.turn.hi, .slice l w_.route.buses.length q, .slice o w_.route.spares.length u, .int .i64 w_.route.unit, .int .i64 w_.route.gap, .int .i64 w_.route.fr, .int .i64 w_.route.to_, .slice y w_.acts.holds.length ab, .slice z w_.acts.turns.length ac, .slice aa w_.acts.spares.length ad]
abbrev K65m12 (x35 : (List Trip) × (List Times)) (au : Option Addr) (av : Nat) (ax : Option Addr) (x44 : (List Trip) × (List Times)) (az : Nat) (aw : Option Addr) (ay : Nat) (aq : Option Addr) (ar : Nat) : TM := [(tI 48 ((x35.1.length : Nat) : Int)), (tS 47 au x35.1.length av), (tS 8 ax x44.2.length az), (tS 7 aw x44.1.length ay), (tS 6 aq x35.2.length ar), (tP 3 1 0), (tP 1 0 0)]
set_option maxRecDepth 100000 in
set_option maxHeartbeats 4000000 in
theorem control_worked_spans_ok (n : Nat) {h : Heap} {w : World} (hh : Has h w) (w_ : Worked) {cs_w_ : List Value} (hx_w_ : rep h w_ cs_w_) {r : List (IMap Int Rg)} (H : control_worked_spans n w_ = some r) :
  Calls Try.prog 65 #[.agg cs_w_.toArray] w (Ret (fun h v => ∃ a c, v = .slice a r.length c ∧ RepS h a c r) h w) := by
 obtain ⟨_, _, rfl, ⟨_, _, rfl, ⟨g, p, rfl, ak⟩, ⟨_, _, rfl, ⟨_, _, rfl, rfl, rfl⟩, ⟨_, _, rfl, ⟨l, q, rfl, al⟩, ⟨_, _, rfl, ⟨o, u, rfl, am⟩, ⟨_, _, rfl, rfl, ⟨_, _, rfl, rfl, ⟨_, _, rfl, rfl, rfl⟩⟩⟩⟩⟩⟩⟩, ⟨_, _, rfl, ⟨y, ab, rfl, an⟩, ⟨_, _, rfl, ⟨z, ac, rfl, ao⟩, ⟨aa, ad, rfl, ap⟩⟩⟩⟩ := hx_w_
 refine enterMk (e := []) 101 [.agg (K65c11 g w_ p l q o u y ab z ac aa ad)] Try.func65 rfl rfl rfl rfl fun t hk => ?_
 have hm := Mem.begin h w hh
 unfold control_worked_spans at H
 refine wp_seq (wp_region_from (wpFrom_loud _ rfl (rfl) fun K hK => ?_))
 refine wp_box (.agg (K65c11 g w_ p l q o u y ab z ac aa ad)) hk hm rfl rfl (by decide) (by kernel_rfl) (by kernel_rfl) (by kernel_rfl) fun d o2 pj (ll : Kn 101 [(d, 0)] [(tP 1 0 0), (tA 0 (K65c11 g w_ p l q o u y ab z ac aa ad))] o2) (e6 : Mem ⟨w, h, noX⟩ h [(d, 0)] [⟨(K65c11 g w_ p l q o u y ab z ac aa ad), some 115⟩] [] pj) => hK _ _ ?_
 refine R_runk 1 1 [1] [(tP 1 0 0)] ll e6.plOk (by kernel_rfl) fun qp lp => ?_
 refine wpFrom_end (by decide) (wp_seq (wp_region_from (R_runk 0 2 [16, 1] [(tA 16 (K65c9 g w_ p l q o u)), (tP 1 0 0)] lp e6.plOk (by kernel_rfl) fun qt lv => ?_)))
 obtain ⟨x17, ex17, H⟩ := bnd H
 refine wpFrom_loud _ rfl (rfl) fun K hK => ?_
 refine wp_call [.agg (K65c9 g w_ p l q o u)] _ lv e6 rfl rfl (by decide) (by rfl) rfl (fun _ _ => by kernel_rfl) (control_Route_stops_ok n e6.has w_.route ((rep_pair (rep_slice ak) (rep_pair (rep_pair rep_int rep_int) (rep_pair (rep_slice al) (rep_pair (rep_slice am) (rep_pair rep_int (rep_pair rep_int (rep_pair rep_int rep_int))))))) : rep h w_.route _) ex17) fun rg dl rp jz dr nl => ?_
 replace ak := ak.mono dr
 replace al := al.mono dr
 replace am := am.mono dr
 replace an := an.mono dr
 replace ao := ao.mono dr
 replace ap := ap.mono dr
 obtain rfl := jz
 refine ⟨.one (.c (.int .i64 x17)), rfl, fun o7 (l7 : Kn 101 [(d, 0)] [(tI 17 x17), (tA 16 (K65c9 g w_ p l q o u)), (tP 1 0 0)] o7) => hK _ _ ?_⟩
 obtain ⟨x18, ex18, H⟩ := bnd H
 obtain ⟨n7, od, ix⟩ := mk_some ex18
 refine wpFrom_loud _ rfl (rfl) fun K hK => ?_
 refine wp_makeSlice 122 1 8 [.map none] (x17) l7 nl rfl rfl (by decide) (by rfl) (by kernel_rfl) (by kernel_rfl) (by rfl) n7 od (by decide) fun cj pc po (hg : Kn 101 [(d, 0)] [(18, .one (.c (.slice cj ((x17 : Int).toNat) ((x17 : Int).toNat)))), (17, .one (.c (.int .i64 x17))), (16, .one (.agg [.slice g w_.route.legs.length p, .int .i64 w_.route.turn.lo, .int .i64 w_.route.turn.hi, .slice l w_.route.buses.length q, .slice o w_.route.spares.length u, .int .i64 w_.route.unit, .int .i64 w_.route.gap, .int .i64 w_.route.fr, .int .i64 w_.route.to_])), (1, .one (.c (.ptr 0 0)))] pc) (f4 : Mem ⟨w, h, noX⟩ dl [(d, 0)] [⟨[.slice g w_.route.legs.length p, .int .i64 w_.route.turn.lo, .int .i64 w_.route.turn.hi, .slice l w_.route.buses.length q, .slice o w_.route.spares.length u, .int .i64 w_.route.unit, .int .i64 w_.route.gap, .int .i64 w_.route.fr, .int .i64 w_.route.to_, .slice y w_.acts.holds.length ab, .slice z w_.acts.turns.length ac, .slice aa w_.acts.spares.length ad], some 115⟩] [⟨cj, (x17 : Int).toNat, (x17 : Int).toNat, 122, 1, (List.flatten (List.replicate (x17 : Int).toNat ([.map none] : List Value))), 0⟩] po) => ?_
 obtain ⟨fj, kl, kv⟩ : ∃ bs : List (Option Nat), List.flatten (List.replicate (x17 : Int).toNat ([.map none] : List Value)) = List.map Value.map bs ∧ MapFam dl ⟨w, h, noX⟩ bs x18 := ⟨List.replicate (x17 : Int).toNat none, fam_nils _, by rw [ix]; exact MapFam.nils _⟩
 have m3 : (x17 : Int).toNat = x18.length := by rw [ix]; simp
 rw [kl] at f4
 rw [m3] at hg f4
 refine hK _ _ ?_
 refine wpFrom_loud _ rfl (rfl) fun K hK => ?_
 refine wp_alloc [.slice none 0 0] hg f4 rfl rfl (by decide) (by kernel_rfl) (by kernel_rfl) (by kernel_rfl) fun f i2 pp (mn : Kn 101 [(d, 0), (f, 0)] [(tP 3 1 0), (tS 18 cj x18.length x18.length), (tI 17 x17), (tA 16 (K65c9 g w_ p l q o u)), (tP 1 0 0)] i2) (nq : Mem ⟨w, h, noX⟩ dl [(d, 0), (f, 0)] [⟨(K65c11 g w_ p l q o u y ab z ac aa ad), some 115⟩, ⟨[.slice none 0 0], some 123⟩] [⟨cj, x18.length, x18.length, 122, 1, (List.map Value.map fj), 0⟩] pp) => hK _ _ ?_
 refine wpFrom_loud _ rfl (rfl) fun K hK => ?_
 refine wp_store 1 0 (.c (.slice cj x18.length x18.length)) [.slice cj x18.length x18.length] mn nq rfl rfl (by rfl) (by rfl) (by rfl) (by kernel_rfl) (by kernel_rfl) (by rfl) fun pq mr (h1 : Mem ⟨w, h, noX⟩ dl [(d, 0), (f, 0)] [⟨(K65c11 g w_ p l q o u y ab z ac aa ad), some 115⟩, ⟨[.slice cj x18.length x18.length], some 123⟩] [⟨cj, x18.length, x18.length, 122, 1, (List.map Value.map fj), 0⟩] pq) => hK _ _ ?_
 have mt : Kn 101 [(d, 0), (f, 0)] [(tP 3 1 0), (tP 1 0 0)] i2 := mr.keep [3, 1] (by rfl)
 refine wpFrom_end (by decide) (wp_seq (wp_seq (wp_region_from (R_runk 0 3 [21, 20, 3, 1] [(tI 21 0), (tI 20 ((x18.length : Nat) : Int)), (tP 3 1 0), (tP 1 0 0)] mt h1.plOk (by kernel_rfl) fun q7 mx => ?_))))
 refine wpFrom_end (by decide) ?_
 obtain ⟨de, g0, H⟩ := bnd H
 refine wp_mid' (fun a' w' => ∃ (di : Option Addr) (dk : Nat) (en : List (Option Nat)) (dh : Fr) (eo : List Nat) (gl : Array Value) (c3 : Heap), a' = ⟨gl, (List.map mark eo)⟩ ∧ Kn 101 [(d, 0), (f, 0)] [(tP 3 1 0), (tP 1 0 0)] gl ∧ Mem dh c3 [(d, 0), (f, 0)] [⟨(K65c11 g w_ p l q o u y ab z ac aa ad), some 115⟩, ⟨[.slice di de.length dk], some 123⟩] [⟨di, de.length, dk, 122, 1, (List.map Value.map en), 0⟩] w' ∧ Heap.le dl c3 ∧ MapFam c3 dh en de ∧ Fr.Of w h dh ∧ Marks dh eo) ?_ ?_
 ·
  refine wp_block ?_
  refine wp_loop_n (fun oy a' w' => ∃ (x_v10 : List (Option (List (Int × Rg)))) (x_v11 : Int) (a9 : Option Addr) (ba : Nat) (bp : List (Option Nat)) (ce : Fr) (dy : List Nat) (gm : Array Value) (b8 : Heap), a' = ⟨gm, (List.map mark dy)⟩ ∧ Kn 101 [(d, 0), (f, 0)] [(tI 21 x_v11), (tI 20 ((x18.length : Nat) : Int)), (tP 3 1 0), (tP 1 0 0)] gm ∧ Mem ce b8 [(d, 0), (f, 0)] [⟨(K65c11 g w_ p l q o u y ab z ac aa ad), some 115⟩, ⟨[.slice a9 x_v10.length ba], some 123⟩] [⟨a9, x_v10.length, ba, 122, 1, (List.map Value.map bp), 0⟩] w' ∧ Heap.le dl b8 ∧ MapFam b8 ce bp x_v10 ∧ Fr.Of w h ce ∧ Marks ce dy ∧ control_worked_spans_l1 oy x18 x_v10 x_v11 = some de) n ?_ ?_
  ·
   exact Exists.intro x18 ⟨0, cj, x18.length, fj, ⟨w, h, noX⟩, ([] : List Nat), _, _, rfl, (mx.keep [21, 20, 3, 1] (by rfl)), h1, (Heap.le_refl _), kv, ⟨rfl, rfl⟩, (Marks.nil _), g0⟩
  ·
   rintro gg _ i7 ⟨x_v10, x_v11, a9, ba, bp, ce, dy, gm, b8, rfl, mz, d6, cu, dp, ig, h7, cc⟩
   clear g0
   obtain _ | gg := gg
   ·
    rw [control_worked_spans_l1] at cc; cases cc
   rw [control_worked_spans_l1] at cc
   replace ak := ak.mono cu
   replace al := al.mono cu
   replace am := am.mono cu
   replace an := an.mono cu
   replace ao := ao.mono cu
   replace ap := ap.mono cu
   refine wp_seq (wp_region_from (R_runk 0 1 [22, 21, 20, 3, 1] [(tB 22 (decide (x_v11 < ((x18.length : Nat) : Int)))), (tI 21 x_v11), (tI 20 ((x18.length : Nat) : Int)), (tP 3 1 0), (tP 1 0 0)] mz d6.plOk (by kernel_rfl) fun q9 fv => ?_))
   refine wpFrom_end (by decide) (wp_seq (wp_cond_sv (decide (x_v11 < ((x18.length : Nat) : Int))) fv (by kernel_rfl) (fun fo => ?_) (fun fo => ?_)))
   ·
    rw [fo, cond_true] at cc
    refine wp_skip (wp_seq (wp_block (wp_seq (wp_region_from (R_runk 0 2 [4, 21, 20, 3, 1] [(tI 4 x_v11), (tI 21 x_v11), (tI 20 ((x18.length : Nat) : Int)), (tP 3 1 0), (tP 1 0 0)] fv d6.plOk (by kernel_rfl) fun ra m0 => ?_)))))
    refine wpFrom_end (by decide) (wp_region_from (R_runk 0 2 [25, 24, 21, 20, 3, 1] [(tI 25 x_v11), (tS 24 a9 x_v10.length ba), (tI 21 x_v11), (tI 20 ((x18.length : Nat) : Int)), (tP 3 1 0), (tP 1 0 0)] m0 d6.plOk (by kernel_rfl) fun rb m1 => ?_))
    refine wpFrom_loud _ rfl (rfl) fun K hK => ?_
    refine wp_makeMap m1 d6 rfl rfl (by decide) fun bt pi kc (k4 : Kn 101 [(d, 0), (f, 0)] [(26, .one (.c (.map (some bt)))), (tI 25 x_v11), (tS 24 a9 x_v10.length ba), (tI 21 x_v11), (tI 20 ((x18.length : Nat) : Int)), (tP 3 1 0), (tP 1 0 0)] pi) (hu : Mem (Fr.put ce bt (some (.map #[] 0))) b8 [(d, 0), (f, 0)] [⟨(K65c11 g w_ p l q o u y ab z ac aa ad), some 115⟩, ⟨[.slice a9 x_v10.length ba], some 123⟩] [⟨a9, x_v10.length, ba, 122, 1, (List.map Value.map bp), 0⟩] (World.alloc i7 (.map #[] 0))) => ?_
    have jr : Ents b8 (#[] : Array MapEntry).toList 0 ([] : List (Int × Rg)) := Ents.nil
    refine hK _ _ ?_
    obtain ⟨x27, ex27, cc⟩ := bnd cc
    obtain ⟨ih, il, qf⟩ := idx_some ex27
    have e3 := lt_of_idx ih il
    obtain ⟨qg, n0⟩ : ∃ ob, bp[(x_v11 : Int).toNat]? = some ob := ⟨_, List.getElem?_eq_getElem (by rw [dp.len]; exact e3)⟩
    obtain ⟨cq, g7⟩ := row_addr hu (i := 0) rfl (b0 := 0 + (x_v11 : Int).toNat * 1) (by show _ < (List.map Value.map bp).length; rw [List.length_map, dp.len]; omega)
    have nc : Mem (Fr.put ce bt (some (.map #[] 0))) b8 [(d, 0), (f, 0), (cq, 0 + (x_v11 : Int).toNat * 1)] [⟨(K65c11 g w_ p l q o u y ab z ac aa ad), some 115⟩, ⟨[.slice a9 x_v10.length ba], some 123⟩, ⟨[], none⟩] [⟨a9, x_v10.length, ba, 122, 1, (List.map Value.map bp), 0⟩] (World.alloc i7 (.map #[] 0)) := hu.addPlc (cs := []) (fun j c hj => by simp at hj) rfl (by kernel_rfl) (by kernel_rfl)
    have qa := fam_cell n0
    refine R_index 3 (x_v11) rfl rfl (rfl) rfl (by decide) k4 (by rfl) (by rfl) (by rfl) g7 (by rfl) ih il (by kernel_rfl) fun gi (k5 : Kn 101 [(d, 0), (f, 0), (cq, 0 + (x_v11 : Int).toNat * 1)] [(tP 27 2 0), (26, .one (.c (.map (some bt)))), (tI 25 x_v11), (tS 24 a9 x_v10.length ba), (tI 21 x_v11), (tI 20 ((x18.length : Nat) : Int)), (tP 3 1 0), (tP 1 0 0)] gi) => ?_
    obtain ⟨df, jj, cc⟩ := bnd cc
    obtain ⟨qd, qe, iv⟩ := upd_some jj
    refine wpFrom_loud _ rfl (rfl) fun K hK => ?_
    refine wp_storeRow 0 2 0 (0 + (x_v11 : Int).toNat * 1) (.c (.map (some bt))) k5 nc rfl rfl (by rfl) (by rfl) rfl rfl g7 rfl (by kernel_rfl) (by show 0 + (x_v11 : Int).toNat * 1 + 0 + 1 ≤ (List.map Value.map bp).length; rw [List.length_map, dp.len]; have := e3; omega) fun fb k6 (nd : Mem (Fr.put ce bt (some (.map #[] 0))) b8 [(d, 0), (f, 0), (cq, 0 + (x_v11 : Int).toNat * 1)] [⟨(K65c11 g w_ p l q o u y ab z ac aa ad), some 115⟩, ⟨[.slice a9 x_v10.length ba], some 123⟩, ⟨[], none⟩] [⟨a9, x_v10.length, ba, 122, 1, ((List.map Value.map bp).take (0 + (x_v11 : Int).toNat * 1 + 0) ++ ([.map (some bt)] : List Value) ++ (List.map Value.map bp).drop (0 + (x_v11 : Int).toNat * 1 + 0 + 1)), 0⟩] fb) => ?_
    have oj := fam_set (bs := bp) (k := (x_v11 : Int).toNat) bt (by rw [dp.len]; exact e3)
    have nf : Mem (Fr.put ce bt (some (.map #[] 0))) b8 [(d, 0), (f, 0), (cq, 0 + (x_v11 : Int).toNat * 1)] [⟨[.slice g w_.route.legs.length p, .int .i64 w_.route.turn.lo, .int .i64 w_.route.turn.hi, .slice l w_.route.buses.length q, .slice o w_.route.spares.length u, .int .i64 w_.route.unit, .int .i64 w_.route.gap, .int .i64 w_.route.fr, .int .i64 w_.route.to_, .slice y w_.acts.holds.length ab, .slice z w_.acts.turns.length ac, .slice aa w_.acts.spares.length ad], some 115⟩, ⟨[.slice a9 x_v10.length ba], some 123⟩, ⟨[], none⟩] [⟨a9, x_v10.length, ba, 122, 1, (List.map Value.map (bp.set (x_v11 : Int).toNat (some bt))), 0⟩] fb := by rw [← oj]; exact nd
    have h8 : x_v10.length = df.length := by rw [iv]; simp
    obtain ⟨fd, n1, nu, hc, ng⟩ := MapFam.take dp nf kc jr e3 ig h7
    rw [← iv] at hc
    have k7 : Kn 101 [(d, 0), (f, 0), (cq, 0 + (x_v11 : Int).toNat * 1)] [(27, .one (.c (.ptr 2 0))), (26, .one (.c (.map (some bt)))), (25, .one (.c (.int .i64 x_v11))), (24, .one (.c (.slice a9 df.length ba))), (21, .one (.c (.int .i64 x_v11))), (20, .one (.c (.int .i64 ((x18.length : Nat) : Int)))), (3, .one (.c (.ptr 1 0))), (1, .one (.c (.ptr 0 0)))] gi := by rw [← h8]; exact k6
    have e4 : Mem fd b8 [(d, 0), (f, 0), (cq, 0 + (x_v11 : Int).toNat * 1)] [⟨[.slice g w_.route.legs.length p, .int .i64 w_.route.turn.lo, .int .i64 w_.route.turn.hi, .slice l w_.route.buses.length q, .slice o w_.route.spares.length u, .int .i64 w_.route.unit, .int .i64 w_.route.gap, .int .i64 w_.route.fr, .int .i64 w_.route.to_, .slice y w_.acts.holds.length ab, .slice z w_.acts.turns.length ac, .slice aa w_.acts.spares.length ad], some 115⟩, ⟨[.slice a9 df.length ba], some 123⟩, ⟨[], none⟩] [⟨a9, df.length, ba, 122, 1, (List.map Value.map (bp.set (x_v11 : Int).toNat (some bt))), 0⟩] fb := by rw [← h8]; exact ng
    replace e4 : Mem fd b8 [(d, 0), (f, 0), (cq, 0 + (x_v11 : Int).toNat * 1)] [⟨(K65c11 g w_ p l q o u y ab z ac aa ad), some 115⟩, ⟨[.slice a9 df.length ba], some 123⟩, ⟨[], none⟩] [⟨a9, df.length, ba, 122, 1, (List.map Value.map (bp.set (x_v11 : Int).toNat (some bt))), 0⟩] fb := e4
    refine hK _ _ ?_
    have k8 : Kn 101 [(d, 0), (f, 0), (cq, 0 + (x_v11 : Int).toNat * 1)] [(tI 21 x_v11), (tI 20 ((x18.length : Nat) : Int)), (tP 3 1 0), (tP 1 0 0)] gi := k7.keep [21, 20, 3, 1] (by rfl)
    refine wpFrom_end (by decide) (wp_region_from (R_runk 0 2 [21, 20, 3, 1] [(tI 21 (IntKind.i64.wrap (x_v11 + 1))), (tI 20 ((x18.length : Nat) : Int)), (tP 3 1 0), (tP 1 0 0)] k8 e4.plOk (by kernel_rfl) fun qj k9 => ?_))
    refine wpFrom_end (by decide) ?_
    exact Exists.intro gg ⟨Nat.lt_succ_self _, Exists.intro df ⟨(IntKind.i64.wrap (x_v11 + 1)), a9, ba, (bp.set (x_v11 : Int).toNat (some bt)), fd, dy, _, _, rfl, ((k9.keep [21, 20, 3, 1] (by rfl)).cut 2 (by kernel_rfl)), (e4.cutPl 2 (by kernel_rfl)), cu, hc, n1, nu, cc⟩⟩
   ·
    rw [fo, cond_false] at cc
    refine wp_exit ?_
    obtain rfl := Option.some.inj cc
    exact Exists.intro a9 ⟨ba, bp, ce, dy, _, _, rfl, (fv.keep [3, 1] (by rfl)), d6, cu, dp, ig, h7⟩
 ·
  rintro _ rk ⟨di, dk, en, dh, eo, gl, c3, rfl, la, d3, dq, cl, n4, nx⟩
  replace ak := ak.mono dq
  replace al := al.mono dq
  replace am := am.mono dq
  replace an := an.mono dq
  replace ao := ao.mono dq
  replace ap := ap.mono dq
  refine wp_seq (wp_region_G (by kernel_rfl) ?_)
  replace d3 := d3.drew
  refine wpG_of_D [] [(d, 0), (f, 0)] [⟨(K65c11 g w_ p l q o u y ab z ac aa ad), some 115⟩, ⟨[.slice di de.length dk], some 123⟩] ?_
  refine D_run [0, 1, 2, 3] [3, 2, 1, 0] [33, 32, 30, 3, 1] [(tA 33 [.func (.func 68) #[] #[]]), (tA 32 (K65c9 g w_ p l q o u)), (tA 30 (K65c11 g w_ p l q o u y ab z ac aa ad)), (tP 3 1 0), (tP 1 0 0)] (fun _ _ _ _ _ h => h) la d3.plOk (by kernel_rfl) (by rfl) (by kernel_rfl) fun qk lb => ?_
  obtain ⟨x34, ex34, H⟩ := bnd H
  refine D_loud 4 rfl (by kernel_rfl) (by decide) (rfl) fun K hK => ?_
  refine wp_call [.agg (K65c9 g w_ p l q o u), .agg [.func (.func 68) #[] #[]]] _ lb d3 rfl rfl (by decide) (by rfl) rfl (fun _ _ => by kernel_rfl) (control_Route_ends_ok n d3.has w_.route ((rep_pair (rep_slice ak) (rep_pair (rep_pair rep_int rep_int) (rep_pair (rep_slice al) (rep_pair (rep_slice am) (rep_pair rep_int (rep_pair rep_int (rep_pair rep_int rep_int))))))) : rep c3 w_.route _) (End.mk (fun (y0 : Rg) => control_Range_low n y0)) (⟨_, _, _, rfl, (show Fn4 c3 (.func (.func 68) #[] #[]) (fun (y0 : Rg) => control_Range_low n y0) from fun h2 w2 hle hh y0 cs0 hy0 r H => ⟨68, _, _, rfl, fun _ _ => by kernel_rfl, control_Range_low_ok n hh y0 hy0 H⟩)⟩ : rep c3 (End.mk (fun (y0 : Rg) => control_Range_low n y0)) _) ex34) fun rc g3 rl ju c6 fy => ?_
  replace ak := ak.mono c6
  replace al := al.mono c6
  replace am := am.mono c6
  replace an := an.mono c6
  replace ao := ao.mono c6
  replace ap := ap.mono c6
  replace cl := cl.mono c6
  obtain ⟨_, rfl, ⟨_, _, rfl, ⟨d9, ep, rfl, f6⟩, ⟨_, _, rfl, ⟨ea, er, rfl, f7⟩, ⟨eb, et, rfl, f8⟩⟩⟩⟩ := ju
  refine ⟨.one (.agg [.slice d9 x34.tm.length ep, .slice ea x34.turns.length er, .slice eb x34.legs.length et]), rfl, fun oz (lc : Kn 101 [(d, 0), (f, 0)] [(tA 34 [.slice d9 x34.tm.length ep, .slice ea x34.turns.length er, .slice eb x34.legs.length et]), (tA 33 [.func (.func 68) #[] #[]]), (tA 32 (K65c9 g w_ p l q o u)), (tA 30 (K65c11 g w_ p l q o u y ab z ac aa ad)), (tP 3 1 0), (tP 1 0 0)] oz) => hK _ _ fy.plOk ?_⟩
  obtain ⟨x35, ex35, H⟩ := bnd H
  refine D_loud 5 rfl (by kernel_rfl) (by decide) (rfl) fun K hK => ?_
  refine wp_call [.agg (K65c11 g w_ p l q o u y ab z ac aa ad), .agg [.slice d9 x34.tm.length ep, .slice ea x34.turns.length er, .slice eb x34.legs.length et]] _ lc fy rfl rfl (by decide) (by rfl) rfl (fun _ _ => by kernel_rfl) (control_worked_trips_ok n fy.has w_ ((rep_pair (rep_pair (rep_slice ak) (rep_pair (rep_pair rep_int rep_int) (rep_pair (rep_slice al) (rep_pair (rep_slice am) (rep_pair rep_int (rep_pair rep_int (rep_pair rep_int rep_int))))))) (rep_pair (rep_slice an) (rep_pair (rep_slice ao) (rep_slice ap)))) : rep g3 w_ _) x34 ((rep_pair (rep_slice f6) (rep_pair (rep_slice f7) (rep_slice f8))) : rep g3 x34 _) ex35) fun rd fl rm jv cg c8 => ?_
  replace ak := ak.mono cg
  replace al := al.mono cg
  replace am := am.mono cg
  replace an := an.mono cg
  replace ao := ao.mono cg
  replace ap := ap.mono cg
  replace f6 := f6.mono cg
  replace f7 := f7.mono cg
  replace f8 := f8.mono cg
  replace cl := cl.mono cg
  obtain ⟨_, _, rfl, ⟨au, av, rfl, bb⟩, ⟨aq, ar, rfl, bc⟩⟩ := jv
  refine ⟨.tup [.c (.slice au x35.1.length av), .c (.slice aq x35.2.length ar)], rfl, fun o0 (ld : Kn 101 [(d, 0), (f, 0)] [(35, .tup [.c (.slice au x35.1.length av), .c (.slice aq x35.2.length ar)]), (tA 34 [.slice d9 x34.tm.length ep, .slice ea x34.turns.length er, .slice eb x34.legs.length et]), (tA 33 [.func (.func 68) #[] #[]]), (tA 32 (K65c9 g w_ p l q o u)), (tA 30 (K65c11 g w_ p l q o u y ab z ac aa ad)), (tP 3 1 0), (tP 1 0 0)] o0) => hK _ _ c8.plOk ?_⟩
  refine D_run [6, 7, 8, 9, 10] [10, 9, 8, 7, 6, 5, 4, 3, 2, 1, 0] [6, 5, 3, 1] [(tS 6 aq x35.2.length ar), (tS 5 au x35.1.length av), (tP 3 1 0), (tP 1 0 0)] (fun _ _ _ _ _ h => h) ld c8.plOk (by kernel_rfl) (by rfl) (by kernel_rfl) fun ql lf => ?_
  refine wpD_end (by kernel_rfl) (wp_seq (wp_region_G (by kernel_rfl) ?_))
  replace c8 := c8.drew
  refine wpG_of_D [] [(d, 0), (f, 0)] [⟨(K65c11 g w_ p l q o u y ab z ac aa ad), some 115⟩, ⟨[.slice di de.length dk], some 123⟩] ?_
  refine D_run [0, 1, 2, 3] [3, 2, 1, 0] [42, 41, 39, 6, 5, 3, 1] [(tA 42 [.func (.func 69) #[] #[]]), (tA 41 (K65c9 g w_ p l q o u)), (tA 39 (K65c11 g w_ p l q o u y ab z ac aa ad)), (tS 6 aq x35.2.length ar), (tS 5 au x35.1.length av), (tP 3 1 0), (tP 1 0 0)] (fun _ _ _ _ _ h => h) lf c8.plOk (by kernel_rfl) (by rfl) (by kernel_rfl) fun qm lg => ?_
  obtain ⟨x43, ex43, H⟩ := bnd H
  refine D_loud 4 rfl (by kernel_rfl) (by decide) (rfl) fun K hK => ?_
  refine wp_call [.agg (K65c9 g w_ p l q o u), .agg [.func (.func 69) #[] #[]]] _ lg c8 rfl rfl (by decide) (by rfl) rfl (fun _ _ => by kernel_rfl) (control_Route_ends_ok n c8.has w_.route ((rep_pair (rep_slice ak) (rep_pair (rep_pair rep_int rep_int) (rep_pair (rep_slice al) (rep_pair (rep_slice am) (rep_pair rep_int (rep_pair rep_int (rep_pair rep_int rep_int))))))) : rep fl w_.route _) (End.mk (fun (y0 : Rg) => control_Range_high n y0)) (⟨_, _, _, rfl, (show Fn4 fl (.func (.func 69) #[] #[]) (fun (y0 : Rg) => control_Range_high n y0) from fun h2 w2 hle hh y0 cs0 hy0 r H => ⟨69, _, _, rfl, fun _ _ => by kernel_rfl, control_Range_high_ok n hh y0 hy0 H⟩)⟩ : rep fl (End.mk (fun (y0 : Rg) => control_Range_high n y0)) _) ex43) fun re g4 rn jw cm fz => ?_
  replace ak := ak.mono cm
  replace al := al.mono cm
  replace am := am.mono cm
  replace an := an.mono cm
  replace ao := ao.mono cm
  replace ap := ap.mono cm
  replace bb := bb.mono cm
  replace bc := bc.mono cm
  replace cl := cl.mono cm
  obtain ⟨_, rfl, ⟨_, _, rfl, ⟨ec, eu, rfl, f9⟩, ⟨_, _, rfl, ⟨ed, ev, rfl, ga⟩, ⟨ee, ew, rfl, gb⟩⟩⟩⟩ := jw
  refine ⟨.one (.agg [.slice ec x43.tm.length eu, .slice ed x43.turns.length ev, .slice ee x43.legs.length ew]), rfl, fun o1 (lh : Kn 101 [(d, 0), (f, 0)] [(tA 43 [.slice ec x43.tm.length eu, .slice ed x43.turns.length ev, .slice ee x43.legs.length ew]), (tA 42 [.func (.func 69) #[] #[]]), (tA 41 (K65c9 g w_ p l q o u)), (tA 39 (K65c11 g w_ p l q o u y ab z ac aa ad)), (tS 6 aq x35.2.length ar), (tS 5 au x35.1.length av), (tP 3 1 0), (tP 1 0 0)] o1) => hK _ _ fz.plOk ?_⟩
  obtain ⟨x44, ex44, H⟩ := bnd H
  refine D_loud 5 rfl (by kernel_rfl) (by decide) (rfl) fun K hK => ?_
  refine wp_call [.agg (K65c11 g w_ p l q o u y ab z ac aa ad), .agg [.slice ec x43.tm.length eu, .slice ed x43.turns.length ev, .slice ee x43.legs.length ew]] _ lh fz rfl rfl (by decide) (by rfl) rfl (fun _ _ => by kernel_rfl) (control_worked_trips_ok n fz.has w_ ((rep_pair (rep_pair (rep_slice ak) (rep_pair (rep_pair rep_int rep_int) (rep_pair (rep_slice al) (rep_pair (rep_slice am) (rep_pair rep_int (rep_pair rep_int (rep_pair rep_int rep_int))))))) (rep_pair (rep_slice an) (rep_pair (rep_slice ao) (rep_slice ap)))) : rep g4 w_ _) x43 ((rep_pair (rep_slice f9) (rep_pair (rep_slice ga) (rep_slice gb))) : rep g4 x43 _) ex44) fun rf g5 ro jx b2 e5 => ?_
  replace ak := ak.mono b2
  replace al := al.mono b2
  replace am := am.mono b2
  replace an := an.mono b2
  replace ao := ao.mono b2
  replace ap := ap.mono b2
  replace bb := bb.mono b2
  replace bc := bc.mono b2
  replace f9 := f9.mono b2
  replace ga := ga.mono b2
  replace gb := gb.mono b2
  replace cl := cl.mono b2
  obtain ⟨_, _, rfl, ⟨aw, ay, rfl, bn⟩, ⟨ax, az, rfl, bo⟩⟩ := jx
  refine ⟨.tup [.c (.slice aw x44.1.length ay), .c (.slice ax x44.2.length az)], rfl, fun o3 (li : Kn 101 [(d, 0), (f, 0)] [(44, .tup [.c (.slice aw x44.1.length ay), .c (.slice ax x44.2.length az)]), (tA 43 [.slice ec x43.tm.length eu, .slice ed x43.turns.length ev, .slice ee x43.legs.length ew]), (tA 42 [.func (.func 69) #[] #[]]), (tA 41 (K65c9 g w_ p l q o u)), (tA 39 (K65c11 g w_ p l q o u y ab z ac aa ad)), (tS 6 aq x35.2.length ar), (tS 5 au x35.1.length av), (tP 3 1 0), (tP 1 0 0)] o3) => hK _ _ e5.plOk ?_⟩
  refine D_run [6, 7, 8, 9, 10] [10, 9, 8, 7, 6, 5, 4, 3, 2, 1, 0] [8, 7, 6, 5, 3, 1] [(tS 8 ax x44.2.length az), (tS 7 aw x44.1.length ay), (tS 6 aq x35.2.length ar), (tS 5 au x35.1.length av), (tP 3 1 0), (tP 1 0 0)] (fun _ _ _ _ _ h => h) li e5.plOk (by kernel_rfl) (by rfl) (by kernel_rfl) fun qn lj => ?_
  refine wpD_end (by kernel_rfl) (wp_seq (wp_seq (wp_region_from (R_runk 0 3 [49, 48, 47, 8, 7, 6, 3, 1] ((tI 49 0) :: (K65m12 x35 au av ax x44 az aw ay aq ar)) lj e5.plOk (by kernel_rfl) fun qo lk => ?_))))
  refine wpFrom_end (by decide) ?_
  obtain ⟨dv, gz, H⟩ := bnd H
  refine wp_mid' (fun a' w' => ∃ (b5 : Option Addr) (b7 : Nat) (dj : List (Option Nat)) (dw : Fr) (el : List Nat) (gj : Array Value) (ex : Heap), a' = ⟨gj, (List.map mark el)⟩ ∧ Kn 101 [(d, 0), (f, 0)] [(tP 3 1 0)] gj ∧ Mem dw ex [(d, 0), (f, 0)] [⟨(K65c11 g w_ p l q o u y ab z ac aa ad), some 115⟩, ⟨[.slice b5 dv.length b7], some 123⟩] [⟨b5, dv.length, b7, 122, 1, (List.map Value.map dj), 0⟩] w' ∧ Heap.le g5 ex ∧ MapFam ex dw dj dv ∧ Fr.Of w h dw ∧ Marks dw el) ?_ ?_
  ·
   refine wp_block ?_
   refine wp_loop_n (fun ox a' w' => ∃ (x_v20 : List (Option (List (Int × Rg)))) (x_v21 : Int) (bh : Option Addr) (bi : Nat) (b6 : List (Option Nat)) (b1 : Fr) (c0 : List Nat) (gk : Array Value) (bw : Heap), a' = ⟨gk, (List.map mark c0)⟩ ∧ Kn 101 [(d, 0), (f, 0)] ((tI 49 x_v21) :: (K65m12 x35 au av ax x44 az aw ay aq ar)) gk ∧ Mem b1 bw [(d, 0), (f, 0)] [⟨(K65c11 g w_ p l q o u y ab z ac aa ad), some 115⟩, ⟨[.slice bh x_v20.length bi], some 123⟩] [⟨bh, x_v20.length, bi, 122, 1, (List.map Value.map b6), 0⟩] w' ∧ Heap.le g5 bw ∧ MapFam bw b1 b6 x_v20 ∧ Fr.Of w h b1 ∧ Marks b1 c0 ∧ control_worked_spans_l2 ox w_ x35 x44 x_v20 x_v21 = some dv) n ?_ ?_
   ·
    exact Exists.intro de ⟨0, di, dk, en, dh, eo, _, _, rfl, (lk.keep [49, 48, 47, 8, 7, 6, 3, 1] (by rfl)), e5, (Heap.le_refl _), cl, n4, nx, gz⟩
   ·
    rintro dd _ pk ⟨x_v20, x_v21, bh, bi, b6, b1, c0, gk, bw, rfl, lm, e7, b3, ez, ie, h6, a6⟩
    clear gz
    obtain _ | dd := dd
    ·
     rw [control_worked_spans_l2] at a6; cases a6
    rw [control_worked_spans_l2] at a6
    replace ak := ak.mono b3
    replace al := al.mono b3
    replace am := am.mono b3
    replace an := an.mono b3
    replace ao := ao.mono b3
    replace ap := ap.mono b3
    replace bb := bb.mono b3
    replace bc := bc.mono b3
    replace bn := bn.mono b3
    replace bo := bo.mono b3
    refine wp_seq (wp_region_from (R_runk 0 1 [50, 49, 48, 47, 8, 7, 6, 3, 1] ((tB 50 (decide (x_v21 < ((x35.1.length : Nat) : Int)))) :: (tI 49 x_v21) :: (K65m12 x35 au av ax x44 az aw ay aq ar)) lm e7.plOk (by kernel_rfl) fun qq fs => ?_))
    refine wpFrom_end (by decide) (wp_seq (wp_cond_sv (decide (x_v21 < ((x35.1.length : Nat) : Int))) fs (by kernel_rfl) (fun fn => ?_) (fun fn => ?_)))
    ·
     rw [fn, cond_true] at a6
     refine wp_skip (wp_seq (wp_block (wp_seq (wp_region_from (R_runk 0 1 [51, 49, 48, 47, 8, 7, 6, 3, 1] ((tI 51 x_v21) :: (tI 49 x_v21) :: (K65m12 x35 au av ax x44 az aw ay aq ar)) fs e7.plOk (by kernel_rfl) fun qr ln => ?_)))))
     obtain ⟨x52, ex52, a6⟩ := bnd a6
     obtain ⟨n5, oa, op⟩ := idx_some ex52
     obtain ⟨ae, af, p1, kh, ok, kn⟩ := bb.get (by decide) op
     obtain ⟨_, _, rfl, rfl, ⟨_, _, rfl, rfl, rfl⟩⟩ := ok
     have hv : Mem b1 bw [(d, 0), (f, 0), (ae, af + (x_v21 : Int).toNat * 3)] [⟨(K65c11 g w_ p l q o u y ab z ac aa ad), some 115⟩, ⟨[.slice bh x_v20.length bi], some 123⟩, ⟨(K65c3 x52), none⟩] [⟨bh, x_v20.length, bi, 122, 1, (List.map Value.map b6), 0⟩] pk := e7.addPlc (cs := (K65c3 x52)) (fun j c hj => kn j _ (map_get hj)) rfl (by kernel_rfl) (by kernel_rfl)
     refine R_index 1 (x_v21) rfl rfl (rfl) rfl (by decide) ln (by rfl) (by rfl) (by rfl) kh (by rfl) n5 oa (by kernel_rfl) fun o4 (lq : Kn 101 [(d, 0), (f, 0), (ae, af + (x_v21 : Int).toNat * 3)] ((tP 52 2 0) :: (tI 51 x_v21) :: (tI 49 x_v21) :: (K65m12 x35 au av ax x44 az aw ay aq ar)) o4) => ?_
     refine R_runk 2 1 [53, 51, 49, 48, 47, 8, 7, 6, 3, 1] ((tA 53 (K65c3 x52)) :: (tI 51 x_v21) :: (tI 49 x_v21) :: (K65m12 x35 au av ax x44 az aw ay aq ar)) lq hv.plOk (by kernel_rfl) fun qs lr => ?_
     refine wpFrom_loud _ rfl (rfl) fun K hK => ?_
     refine wp_alloc [.int .i64 0] lr hv rfl rfl (by decide) (by kernel_rfl) (by kernel_rfl) (by kernel_rfl) fun ag o5 pl (ls : Kn 101 [(d, 0), (f, 0), (ae, af + (x_v21 : Int).toNat * 3), (ag, 0)] ((tP 9 3 0) :: (tA 53 (K65c3 x52)) :: (tI 51 x_v21) :: (tI 49 x_v21) :: (K65m12 x35 au av ax x44 az aw ay aq ar)) o5) (nh : Mem b1 bw [(d, 0), (f, 0), (ae, af + (x_v21 : Int).toNat * 3), (ag, 0)] [⟨(K65c11 g w_ p l q o u y ab z ac aa ad), some 115⟩, ⟨[.slice bh x_v20.length bi], some 123⟩, ⟨(K65c3 x52), none⟩, ⟨[.int .i64 0], some 3⟩] [⟨bh, x_v20.length, bi, 122, 1, (List.map Value.map b6), 0⟩] pl) => hK _ _ ?_
     refine wpFrom_loud _ rfl (rfl) fun K hK => ?_
     refine wp_alloc [.int .i64 0, .int .i64 0, .int .i64 0] ls nh rfl rfl (by decide) (by kernel_rfl) (by kernel_rfl) (by kernel_rfl) fun ah iz pm (lu : Kn 101 (K65e5 d f ae af x_v21 ag ah) ((tP 10 4 0) :: (tP 9 3 0) :: (tA 53 (K65c3 x52)) :: (tI 51 x_v21) :: (tI 49 x_v21) :: (K65m12 x35 au av ax x44 az aw ay aq ar)) iz) (ni : Mem b1 bw (K65e5 d f ae af x_v21 ag ah) [⟨(K65c11 g w_ p l q o u y ab z ac aa ad), some 115⟩, ⟨[.slice bh x_v20.length bi], some 123⟩, ⟨(K65c3 x52), none⟩, ⟨[.int .i64 0], some 3⟩, ⟨[.int .i64 0, .int .i64 0, .int .i64 0], some 153⟩] [⟨bh, x_v20.length, bi, 122, 1, (List.map Value.map b6), 0⟩] pm) => hK _ _ ?_
     refine wpFrom_loud _ rfl (rfl) fun K hK => ?_
     refine wp_store 3 0 (.c (.int .i64 x_v21)) [.int .i64 x_v21] lu ni rfl rfl (by rfl) (by rfl) (by rfl) (by kernel_rfl) (by kernel_rfl) (by rfl) fun pn lw (nj : Mem b1 bw (K65e5 d f ae af x_v21 ag ah) [⟨(K65c11 g w_ p l q o u y ab z ac aa ad), some 115⟩, ⟨[.slice bh x_v20.length bi], some 123⟩, ⟨(K65c3 x52), none⟩, ⟨[.int .i64 x_v21], some 3⟩, ⟨[.int .i64 0, .int .i64 0, .int .i64 0], some 153⟩] [⟨bh, x_v20.length, bi, 122, 1, (List.map Value.map b6), 0⟩] pn) => hK _ _ ?_
     refine wpFrom_loud _ rfl (rfl) fun K hK => ?_
     refine wp_store 4 0 (.agg (K65c3 x52)) (K65c3 x52) lw nj rfl rfl (by rfl) (by rfl) (by rfl) (by kernel_rfl) (by kernel_rfl) (by rfl) fun i3 lx (d4 : Mem b1 bw (K65e5 d f ae af x_v21 ag ah) [⟨(K65c11 g w_ p l q o u y ab z ac aa ad), some 115⟩, ⟨[.slice bh x_v20.length bi], some 123⟩, ⟨(K65c3 x52), none⟩, ⟨[.int .i64 x_v21], some 3⟩, ⟨(K65c3 x52), some 153⟩] [⟨bh, x_v20.length, bi, 122, 1, (List.map Value.map b6), 0⟩] i3) => hK _ _ ?_
     have ly : Kn 101 (K65e5 d f ae af x_v21 ag ah) ((tP 10 4 0) :: (tP 9 3 0) :: (tI 49 x_v21) :: (K65m12 x35 au av ax x44 az aw ay aq ar)) iz := lx.keep [10, 9, 49, 48, 47, 8, 7, 6, 3, 1] (by rfl)
     refine wpFrom_end (by decide) (wp_seq (wp_seq (wp_region_G (by kernel_rfl) ?_)))
     replace d4 := d4.drew
     refine wpG_of_D [] (K65e5 d f ae af x_v21 ag ah) [⟨(K65c11 g w_ p l q o u y ab z ac aa ad), some 115⟩, ⟨[.slice bh x_v20.length bi], some 123⟩, ⟨(K65c3 x52), none⟩, ⟨[.int .i64 x_v21], some 3⟩, ⟨(K65c3 x52), some 153⟩] ?_
     refine D_run [0, 1, 2, 3, 4] [4, 3, 2, 1, 0] [58, 57, 56, 55, 9, 49, 48, 47, 8, 7, 6, 3, 1] ((tI 58 x_v21) :: (tS 57 aq x35.2.length ar) :: (tA 56 (K65c3 x52)) :: (tA 55 (K65c9 g w_ p l q o u)) :: (tP 9 3 0) :: (tI 49 x_v21) :: (K65m12 x35 au av ax x44 az aw ay aq ar)) (fun _ _ _ _ _ h => h) ly d4.plOk (by kernel_rfl) (by rfl) (by kernel_rfl) fun qu lz => ?_
     obtain ⟨x59, ex59, a6⟩ := bnd a6
     obtain ⟨n6, oc, oq⟩ := idx_some ex59
     obtain ⟨ai, aj, p2, ki, ol, ko⟩ := bc.get (by decide) oq
     obtain ⟨_, _, rfl, ⟨a0, a1, rfl, bz⟩, rfl⟩ := ol
     have f0 : Mem b1 bw (K65e6 d f ae af x_v21 ag ah ai aj) [⟨(K65c11 g w_ p l q o u y ab z ac aa ad), some 115⟩, ⟨[.slice bh x_v20.length bi], some 123⟩, ⟨(K65c3 x52), none⟩, ⟨[.int .i64 x_v21], some 3⟩, ⟨(K65c3 x52), some 153⟩, ⟨(K65c1 a0 x59 a1), none⟩] [⟨bh, x_v20.length, bi, 122, 1, (List.map Value.map b6), 0⟩] (World.drew i3) := d4.addPlc (cs := (K65c1 a0 x59 a1)) (fun j c hj => ko j _ (map_get hj)) rfl (by kernel_rfl) (by kernel_rfl)
     refine D_index 5 (x_v21) (K65c1 a0 x59 a1) (fun _ _ _ _ _ h => h) rfl rfl (rfl) rfl (by decide) (by kernel_rfl) (by kernel_rfl) lz d4.plOk (by rfl) (by rfl) (by rfl) ki (by rfl) n6 oc (by kernel_rfl) fun o6 (l0 : Kn 101 (K65e6 d f ae af x_v21 ag ah ai aj) ((tP 59 5 0) :: (tI 58 x_v21) :: (tS 57 aq x35.2.length ar) :: (tA 56 (K65c3 x52)) :: (tA 55 (K65c9 g w_ p l q o u)) :: (tP 9 3 0) :: (tI 49 x_v21) :: (K65m12 x35 au av ax x44 az aw ay aq ar)) o6) => ?_
     refine D_run [6] [6, 5, 4, 3, 2, 1, 0] [60, 56, 55, 9, 49, 48, 47, 8, 7, 6, 3, 1] ((tA 60 (K65c1 a0 x59 a1)) :: (tA 56 (K65c3 x52)) :: (tA 55 (K65c9 g w_ p l q o u)) :: (tP 9 3 0) :: (tI 49 x_v21) :: (K65m12 x35 au av ax x44 az aw ay aq ar)) (fun _ _ _ _ _ h => h) l0 f0.plOk (by kernel_rfl) (by rfl) (by kernel_rfl) fun qv l1 => ?_
     obtain ⟨x61, ex61, a6⟩ := bnd a6
     refine D_loud 7 rfl (by kernel_rfl) (by decide) (rfl) fun K hK => ?_
     refine wp_call [.agg (K65c9 g w_ p l q o u), .agg (K65c3 x52), .agg (K65c1 a0 x59 a1)] _ l1 f0 rfl rfl (by decide) (by rfl) rfl (fun _ _ => by kernel_rfl) (control_Route_passes_ok dd f0.has w_.route ((rep_pair (rep_slice ak) (rep_pair (rep_pair rep_int rep_int) (rep_pair (rep_slice al) (rep_pair (rep_slice am) (rep_pair rep_int (rep_pair rep_int (rep_pair rep_int rep_int))))))) : rep bw w_.route _) x52 ((rep_pair rep_int (rep_pair rep_int rep_int)) : rep bw x52 _) x59 ((rep_pair (rep_slice bz) rep_int) : rep bw x59 _) ex61) fun rh kd co jy bx hw => ?_
     replace ak := ak.mono bx
     replace al := al.mono bx
     replace am := am.mono bx
     replace an := an.mono bx
     replace ao := ao.mono bx
     replace ap := ap.mono bx
     replace bb := bb.mono bx
     replace bc := bc.mono bx
     replace bn := bn.mono bx
     replace bo := bo.mono bx
     replace bz := bz.mono bx
     replace ez := ez.mono bx
     obtain ⟨ef, eg, eh, rfl, b9, ca, cb⟩ := jy
     refine ⟨.one (.c (.func (.func 106) #[] #[.pointer (some ⟨ef, 0, none⟩), .pointer (some ⟨eg, 0, none⟩), .pointer (some ⟨eh, 0, none⟩)])), rfl, fun i0 (l2 : Kn 101 (K65e6 d f ae af x_v21 ag ah ai aj) ((61, .one (.c (.func (.func 106) #[] #[.pointer (some ⟨ef, 0, none⟩), .pointer (some ⟨eg, 0, none⟩), .pointer (some ⟨eh, 0, none⟩)]))) :: (tA 60 (K65c1 a0 x59 a1)) :: (tA 56 (K65c3 x52)) :: (tA 55 (K65c9 g w_ p l q o u)) :: (tP 9 3 0) :: (tI 49 x_v21) :: (K65m12 x35 au av ax x44 az aw ay aq ar)) i0) => hK _ _ hw.plOk ?_⟩
     have ft : Kn 101 (K65e6 d f ae af x_v21 ag ah ai aj) ((61, .one (.c (.func (.func 106) #[] #[.pointer (some ⟨ef, 0, none⟩), .pointer (some ⟨eg, 0, none⟩), .pointer (some ⟨eh, 0, none⟩)]))) :: (tP 9 3 0) :: (tI 49 x_v21) :: (K65m12 x35 au av ax x44 az aw ay aq ar)) i0 := l2.keep [61, 9, 49, 48, 47, 8, 7, 6, 3, 1] (by rfl)
     refine wpD_end (by kernel_rfl) (wp_block ?_)
     obtain ⟨cy, jh, a6⟩ := bnd a6
     refine wp_rangeJ (.func (.func 106) #[] #[.pointer (some ⟨ef, 0, none⟩), .pointer (some ⟨eg, 0, none⟩), .pointer (some ⟨eh, 0, none⟩)]) ft (by rfl) rfl (fun _ _ => by kernel_rfl) fun ci iq => ?_
     obtain ⟨i8, m6, j3, nk⟩ := Mem.loopBegin hw h6 ie ci
     have js : JOk (fun (s : List (Option (List (Int × Rg)))) (h' : Heap) (w' : World) => ∃ (Fj : Fr) (bd : Option Addr) (be : Nat) (bu : List (Option Nat)), LoopFr w h Fj ((co).heap.size + 1) ci ((co).heap.size :: c0) ∧ Mem Fj h' (K65e6 d f ae af x_v21 ag ah ai aj) [⟨(K65c11 g w_ p l q o u y ab z ac aa ad), some 115⟩, ⟨[.slice bd s.length be], some 123⟩, ⟨(K65c3 x52), none⟩, ⟨[.int .i64 x_v21], some 3⟩, ⟨(K65c3 x52), some 153⟩, ⟨(K65c1 a0 x59 a1), none⟩] [⟨bd, s.length, be, 122, 1, (List.map Value.map bu), 0⟩] w' ∧ MapFam h' Fj bu s ∧ Heap.le kd h') := ⟨fun s h' w' hj => by obtain ⟨_, bd, be, bu, _, hm, e0, _⟩ := hj; exact hm.has, fun s h' h'' w' w'' hj hb hle hn => by obtain ⟨Fj, bd, be, bu, hlf, hm, e0, hle0⟩ := hj; exact ⟨Fj, bd, be, bu, hlf, hm.call hb hle hn, e0.mono hle, Heap.le_trans hle0 hle⟩⟩
     have ks := MapFam.up ez (fun b es c hb => j3 _ _ hb)
     refine ⟨_, control_Route_passes_1_it dd js (fun (s : List (Option (List (Int × Rg)))) (x62 : Int) (x63 : Int) => ((((idx s x62).bind fun x66 =>
        (x66.bind fun gc =>
        ((upd s x62 (some (put? gc x_v21 (Rg.mk x63 x63)))).bind fun d7 =>
        some d7))) : Option (List (Option (List (Int × Rg))))).bind fun s1 => some (s1, true))) ?_ x_v20 ⟨i8, bh, bi, b6, m6, nk, ks, Heap.le_refl _⟩ x61.1 b9 x61.2.1 ca x61.2.2 cb jh, ?_⟩
     ·
      intro s x62 x63 s' pu c2 gn k0  fg
      obtain ⟨i9, bd, be, bu, fw, c9, e0, bq⟩ := k0
      obtain ⟨qh, c1, fg⟩ := bnd fg
      cases fg
      replace ak := ak.mono bq
      replace al := al.mono bq
      replace am := am.mono bq
      replace an := an.mono bq
      replace ao := ao.mono bq
      replace ap := ap.mono bq
      replace bb := bb.mono bq
      replace bc := bc.mono bq
      replace bn := bn.mono bq
      replace bo := bo.mono bq
      replace bz := bz.mono bq
      replace b9 := b9.mono bq
      replace ca := ca.mono bq
      replace cb := cb.mono bq
      replace c9 : Mem i9 c2 (K65e6 d f ae af x_v21 ag ah ai aj) [⟨(K65c11 g w_ p l q o u y ab z ac aa ad), some 115⟩, ⟨[.slice bd s.length be], some 123⟩, ⟨(K65c3 x52), none⟩, ⟨[.int .i64 x_v21], some 3⟩, ⟨(K65c3 x52), some 153⟩, ⟨(K65c1 a0 x59 a1), none⟩] [⟨bd, s.length, be, 122, 1, (List.map Value.map bu), 0⟩] gn := c9
      refine yields2 iq (c9.ext fw.loop) ?_
      have l3 : Kn 101 (K65e6 d f ae af x_v21 ag ah ai aj) [(tI 63 x63), (tI 62 x62), (tP 9 3 0), (tP 3 1 0)] _ := (((ft.keep [9, 3] (by rfl)).put (k := 62) (by decide) (.one (.c (.int .i64 x62)))).put (k := 63) (by decide) (.one (.c (.int .i64 x63))))
      refine ws_seq (ws_region_from (by kernel_rfl) (R_runk 0 1 [11, 63, 9, 3] [(tI 11 x62), (tI 63 x63), (tP 9 3 0), (tP 3 1 0)] l3 c9.plOk (by kernel_rfl) fun qw l4 => ?_))
      refine wpFrom_end (by decide) (ws_region_from (by kernel_rfl) (R_runk 0 1 [12, 11, 9, 3] [(tI 12 x63), (tI 11 x62), (tP 9 3 0), (tP 3 1 0)] l4 c9.plOk (by kernel_rfl) fun qx l5 => ?_))
      refine wpFrom_end (by decide) ?_
      refine ⟨c9.ext fw.loop, ?_⟩
      obtain ⟨gp, m7, j4, cv⟩ := Mem.loopStep c9 fw { ci with state := .busy }
      have e1 := MapFam.up e0 j4
      replace cv : Mem gp c2 (K65e6 d f ae af x_v21 ag ah ai aj) [⟨(K65c11 g w_ p l q o u y ab z ac aa ad), some 115⟩, ⟨[.slice bd s.length be], some 123⟩, ⟨(K65c3 x52), none⟩, ⟨[.int .i64 x_v21], some 3⟩, ⟨(K65c3 x52), some 153⟩, ⟨(K65c1 a0 x59 a1), none⟩] [⟨bd, s.length, be, 122, 1, (List.map Value.map bu), 0⟩] (World.putObj gn ((co).heap.size + 1) (.loop { ci with state := .busy })) := cv
      refine ws_block (ws_region_G (by kernel_rfl) (by kernel_rfl) ?_)
      replace cv := cv.drew
      refine wpG_of_D [] (K65e6 d f ae af x_v21 ag ah ai aj) [⟨(K65c11 g w_ p l q o u y ab z ac aa ad), some 115⟩, ⟨[.slice bd s.length be], some 123⟩, ⟨(K65c3 x52), none⟩, ⟨[.int .i64 x_v21], some 3⟩, ⟨(K65c3 x52), some 153⟩, ⟨(K65c1 a0 x59 a1), none⟩] ?_
      refine D_run [0, 1] [1, 0] [65, 64, 12, 9] [(tI 65 x62), (tS 64 bd s.length be), (tI 12 x63), (tP 9 3 0)] (fun _ _ _ _ _ h => h) l5 cv.plOk (by kernel_rfl) (by rfl) (by kernel_rfl) fun qy l6 => ?_
      obtain ⟨x66, ex66, c1⟩ := bnd c1
      obtain ⟨ii, im, os⟩ := idx_some ex66
      have m2 := lt_of_idx ii im
      obtain ⟨e9, ia⟩ : ∃ ob, bu[(x62 : Int).toNat]? = some ob := ⟨_, List.getElem?_eq_getElem (by rw [e1.len]; exact m2)⟩
      obtain ⟨cz, fm⟩ := row_addr cv (i := 0) rfl (b0 := 0 + (x62 : Int).toNat * 1) (by show _ < (List.map Value.map bu).length; rw [List.length_map, e1.len]; omega)
      have f1 : Mem gp c2 (K65e7 d f ae af x_v21 ag ah ai aj cz x62) [⟨(K65c11 g w_ p l q o u y ab z ac aa ad), some 115⟩, ⟨[.slice bd s.length be], some 123⟩, ⟨(K65c3 x52), none⟩, ⟨[.int .i64 x_v21], some 3⟩, ⟨(K65c3 x52), some 153⟩, ⟨(K65c1 a0 x59 a1), none⟩, ⟨[], none⟩] [⟨bd, s.length, be, 122, 1, (List.map Value.map bu), 0⟩] (World.drew (World.putObj gn ((co).heap.size + 1) (.loop { ci with state := .busy }))) := cv.addPlc (cs := []) (fun j c hj => by simp at hj) rfl (by kernel_rfl) (by kernel_rfl)
      have ha := fam_cell ia
      refine D_index 2 (x62) [.map e9] (fun _ _ _ _ _ h => h) rfl rfl (rfl) rfl (by decide) (by kernel_rfl) (by kernel_rfl) l6 cv.plOk (by rfl) (by rfl) (by rfl) fm (by rfl) ii im (by kernel_rfl) fun o8 (l8 : Kn 101 (K65e7 d f ae af x_v21 ag ah ai aj cz x62) [(tP 66 6 0), (tI 65 x62), (tS 64 bd s.length be), (tI 12 x63), (tP 9 3 0)] o8) => ?_
      refine D_run [3, 4, 5, 6, 7] [7, 6, 5, 4, 3, 2, 1, 0] [71, 68, 67] [(tA 71 [.int .i64 x63, .int .i64 x63]), (tI 68 x_v21), (67, .one (.c (.map e9)))] (fun _ _ _ _ _ h => h) l8 (PlOk.peek f1.plOk f1 0 6 rfl rfl fm [.map e9] (ha _)) (by kernel_rfl) (by rfl) (by kernel_rfl) fun o9 hf => ?_
      obtain ⟨gc, je, c1⟩ := bnd c1
      obtain ⟨gv, p5, pw, g8, g1, jm⟩ := e1.get (i := (x62 : Int).toNat) (m := gc) (by rw [os, je])
      obtain rfl : e9 = some gv := by have := ia.symm.trans g8; simpa using this
      obtain ⟨d7, jk, c1⟩ := bnd c1
      obtain ⟨_, _, iw⟩ := upd_some jk
      refine D_loud 8 rfl (by kernel_rfl) (by decide) (rfl) fun K hK => ?_
      refine wp_update (KT := 3) (E := 39) (k := (x_v21 : Int)) (x := ((Rg.mk x63 x63) : Rg)) (.c (.int .i64 x_v21)) (.agg [.int .i64 x63, .int .i64 x63]) hf f1 rfl rfl (by rfl) (by rfl) (by rfl) (by kernel_rfl) (KL.int (by kernel_rfl)) g1 jm rfl ⟨_, rfl, ((rep_pair rep_int rep_int) : rep c2 ((Rg.mk x63 x63) : Rg) _)⟩ fun p6 px i4 jn nm => ?_
      obtain ⟨gq, ho, hd, d5⟩ := MapFam.changeL e1 g8 g1 jn nm m7
      rw [← iw] at hd
      have ny : s.length = d7.length := by rw [iw]; simp
      replace d5 : Mem gq c2 (K65e7 d f ae af x_v21 ag ah ai aj cz x62) [⟨(K65c11 g w_ p l q o u y ab z ac aa ad), some 115⟩, ⟨[.slice bd s.length be], some 123⟩, ⟨(K65c3 x52), none⟩, ⟨[.int .i64 x_v21], some 3⟩, ⟨(K65c3 x52), some 153⟩, ⟨(K65c1 a0 x59 a1), none⟩, ⟨[], none⟩] [⟨bd, s.length, be, 122, 1, (List.map Value.map bu), 0⟩] i4 := d5
      refine hK _ _ (PlOk.peek d5.plOk d5 0 6 rfl rfl fm [.map (some gv)] (ha _)) ?_
      have l9 : Kn 101 (K65e7 d f ae af x_v21 ag ah ai aj cz x62) [] o9 := hf.keep [] (by rfl)
      refine wpD_end (by kernel_rfl) ?_
      have qb := l9
      have hx : Mem gq c2 [(d, 0), (f, 0), (ae, af + (x_v21 : Int).toNat * 3), (ag, 0), (ah, 0), (ai, aj + (x_v21 : Int).toNat * 2), (cz, 0 + (x62 : Int).toNat * 1)] [⟨[.slice g w_.route.legs.length p, .int .i64 w_.route.turn.lo, .int .i64 w_.route.turn.hi, .slice l w_.route.buses.length q, .slice o w_.route.spares.length u, .int .i64 w_.route.unit, .int .i64 w_.route.gap, .int .i64 w_.route.fr, .int .i64 w_.route.to_, .slice y w_.acts.holds.length ab, .slice z w_.acts.turns.length ac, .slice aa w_.acts.spares.length ad], some 115⟩, ⟨[.slice bd d7.length be], some 123⟩, ⟨[.int .i64 x52.stop, .int .i64 x52.tm, .int .i64 x52.turned], none⟩, ⟨[.int .i64 x_v21], some 3⟩, ⟨[.int .i64 x52.stop, .int .i64 x52.tm, .int .i64 x52.turned], some 153⟩, ⟨[.slice a0 x59.legs.length a1, .int .i64 x59.turn], none⟩, ⟨[], none⟩] [⟨bd, d7.length, be, 122, 1, (List.map Value.map bu), 0⟩] i4 := by rw [← ny]; exact d5
      obtain rfl := Option.some.inj c1
      refine ⟨hx.ext ho.loop, ?_⟩
      rw [iq.eq]
      obtain ⟨ja, m8, j5, nn⟩ := Mem.loopStep hx ho ci
      have kt := MapFam.up hd j5
      exact ⟨rfl, c2, (Heap.le_refl _), ja, bd, be, bu, m8, ((nn).cutPl 6 (by kernel_rfl)), kt, bq⟩
     ·
      intro go j1
      obtain ⟨dm, _, k1⟩ := j1
      obtain ⟨ps, cp, ct, em, hp, hy, ku, br⟩ := k1
      refine ⟨hy.ext hp.loop, ?_⟩
      obtain ⟨fe, hq, j6, da⟩ := Mem.loopStep hy hp { ci with state := .exhausted }
      have fq := MapFam.up ku j6
      replace ak := ak.mono br
      replace al := al.mono br
      replace am := am.mono br
      replace an := an.mono br
      replace ao := ao.mono br
      replace ap := ap.mono br
      replace bb := bb.mono br
      replace bc := bc.mono br
      replace bn := bn.mono br
      replace bo := bo.mono br
      replace bz := bz.mono br
      replace b9 := b9.mono br
      replace ca := ca.mono br
      replace cb := cb.mono br
      replace da : Mem fe dm (K65e6 d f ae af x_v21 ag ah ai aj) [⟨(K65c11 g w_ p l q o u y ab z ac aa ad), some 115⟩, ⟨[.slice cp cy.length ct], some 123⟩, ⟨(K65c3 x52), none⟩, ⟨[.int .i64 x_v21], some 3⟩, ⟨(K65c3 x52), some 153⟩, ⟨(K65c1 a0 x59 a1), none⟩] [⟨cp, cy.length, ct, 122, 1, (List.map Value.map em), 0⟩] (World.putObj go ((co).heap.size + 1) (.loop { ci with state := .exhausted })) := da
      refine wp_seq (wp_region_G (by kernel_rfl) ?_)
      replace da := da.drew
      refine wpG_of_D [] (K65e6 d f ae af x_v21 ag ah ai aj) [⟨(K65c11 g w_ p l q o u y ab z ac aa ad), some 115⟩, ⟨[.slice cp cy.length ct], some 123⟩, ⟨(K65c3 x52), none⟩, ⟨[.int .i64 x_v21], some 3⟩, ⟨(K65c3 x52), some 153⟩, ⟨(K65c1 a0 x59 a1), none⟩] ?_
      refine D_run [0, 1, 2, 3] [3, 2, 1, 0] [75, 74, 73, 9, 49, 48, 47, 8, 7, 6, 3, 1] ((tI 75 x_v21) :: (tS 74 aw x44.1.length ay) :: (tA 73 (K65c9 g w_ p l q o u)) :: (tP 9 3 0) :: (tI 49 x_v21) :: (K65m12 x35 au av ax x44 az aw ay aq ar)) (fun _ _ _ _ _ h => h) ft da.plOk (by kernel_rfl) (by rfl) (by kernel_rfl) fun qz ma => ?_
      obtain ⟨x76, ex76, a6⟩ := bnd a6
      obtain ⟨n8, oe, ot⟩ := idx_some ex76
      obtain ⟨a3, a5, p3, kj, om, kp⟩ := bn.get (by decide) ot
      obtain ⟨_, _, rfl, rfl, ⟨_, _, rfl, rfl, rfl⟩⟩ := om
      have f2 : Mem fe dm [(d, 0), (f, 0), (ae, af + (x_v21 : Int).toNat * 3), (ag, 0), (ah, 0), (ai, aj + (x_v21 : Int).toNat * 2), (a3, a5 + (x_v21 : Int).toNat * 3)] [⟨(K65c11 g w_ p l q o u y ab z ac aa ad), some 115⟩, ⟨[.slice cp cy.length ct], some 123⟩, ⟨(K65c3 x52), none⟩, ⟨[.int .i64 x_v21], some 3⟩, ⟨(K65c3 x52), some 153⟩, ⟨(K65c1 a0 x59 a1), none⟩, ⟨(K65c4 x76), none⟩] [⟨cp, cy.length, ct, 122, 1, (List.map Value.map em), 0⟩] (World.drew (World.putObj go ((co).heap.size + 1) (.loop { ci with state := .exhausted }))) := da.addPlc (cs := (K65c4 x76)) (fun j c hj => kp j _ (map_get hj)) rfl (by kernel_rfl) (by kernel_rfl)
      refine D_index 4 (x_v21) (K65c4 x76) (fun _ _ _ _ _ h => h) rfl rfl (rfl) rfl (by decide) (by kernel_rfl) (by kernel_rfl) ma da.plOk (by rfl) (by rfl) (by rfl) kj (by rfl) n8 oe (by kernel_rfl) fun pa (mb : Kn 101 [(d, 0), (f, 0), (ae, af + (x_v21 : Int).toNat * 3), (ag, 0), (ah, 0), (ai, aj + (x_v21 : Int).toNat * 2), (a3, a5 + (x_v21 : Int).toNat * 3)] ((tP 76 6 0) :: (tI 75 x_v21) :: (tS 74 aw x44.1.length ay) :: (tA 73 (K65c9 g w_ p l q o u)) :: (tP 9 3 0) :: (tI 49 x_v21) :: (K65m12 x35 au av ax x44 az aw ay aq ar)) pa) => ?_
      refine D_run [5, 6, 7] [7, 6, 5, 4, 3, 2, 1, 0] [79, 78, 77, 73, 9, 49, 48, 47, 8, 7, 6, 3, 1] ((tI 79 x_v21) :: (tS 78 ax x44.2.length az) :: (tA 77 (K65c4 x76)) :: (tA 73 (K65c9 g w_ p l q o u)) :: (tP 9 3 0) :: (tI 49 x_v21) :: (K65m12 x35 au av ax x44 az aw ay aq ar)) (fun _ _ _ _ _ h => h) mb f2.plOk (by kernel_rfl) (by rfl) (by kernel_rfl) fun q0 mc => ?_
      obtain ⟨x80, ex80, a6⟩ := bnd a6
      obtain ⟨n9, og, ou⟩ := idx_some ex80
      obtain ⟨a7, a8, p4, kk, oo, kq⟩ := bo.get (by decide) ou
      obtain ⟨_, _, rfl, ⟨bj, bl, rfl, dc⟩, rfl⟩ := oo
      have f3 : Mem fe dm (K65e8 d f ae af x_v21 ag ah ai aj a3 a5 a7 a8) [⟨(K65c11 g w_ p l q o u y ab z ac aa ad), some 115⟩, ⟨[.slice cp cy.length ct], some 123⟩, ⟨(K65c3 x52), none⟩, ⟨[.int .i64 x_v21], some 3⟩, ⟨(K65c3 x52), some 153⟩, ⟨(K65c1 a0 x59 a1), none⟩, ⟨(K65c4 x76), none⟩, ⟨(K65c2 bj x80 bl), none⟩] [⟨cp, cy.length, ct, 122, 1, (List.map Value.map em), 0⟩] (World.drew (World.putObj go ((co).heap.size + 1) (.loop { ci with state := .exhausted }))) := f2.addPlc (cs := (K65c2 bj x80 bl)) (fun j c hj => kq j _ (map_get hj)) rfl (by kernel_rfl) (by kernel_rfl)
      refine D_index 8 (x_v21) (K65c2 bj x80 bl) (fun _ _ _ _ _ h => h) rfl rfl (rfl) rfl (by decide) (by kernel_rfl) (by kernel_rfl) mc f2.plOk (by rfl) (by rfl) (by rfl) kk (by rfl) n9 og (by kernel_rfl) fun pb (md : Kn 101 (K65e8 d f ae af x_v21 ag ah ai aj a3 a5 a7 a8) ((tP 80 7 0) :: (tI 79 x_v21) :: (tS 78 ax x44.2.length az) :: (tA 77 (K65c4 x76)) :: (tA 73 (K65c9 g w_ p l q o u)) :: (tP 9 3 0) :: (tI 49 x_v21) :: (K65m12 x35 au av ax x44 az aw ay aq ar)) pb) => ?_
      refine D_run [9] [9, 8, 7, 6, 5, 4, 3, 2, 1, 0] [81, 77, 73, 9, 49, 48, 47, 8, 7, 6, 3, 1] ((tA 81 (K65c2 bj x80 bl)) :: (tA 77 (K65c4 x76)) :: (tA 73 (K65c9 g w_ p l q o u)) :: (tP 9 3 0) :: (tI 49 x_v21) :: (K65m12 x35 au av ax x44 az aw ay aq ar)) (fun _ _ _ _ _ h => h) md f3.plOk (by kernel_rfl) (by rfl) (by kernel_rfl) fun q1 me => ?_
      obtain ⟨x82, ex82, a6⟩ := bnd a6
      refine D_loud 10 rfl (by kernel_rfl) (by decide) (rfl) fun K hK => ?_
      refine wp_call [.agg (K65c9 g w_ p l q o u), .agg (K65c4 x76), .agg (K65c2 bj x80 bl)] _ me f3 rfl rfl (by decide) (by rfl) rfl (fun _ _ => by kernel_rfl) (control_Route_passes_ok dd f3.has w_.route ((rep_pair (rep_slice ak) (rep_pair (rep_pair rep_int rep_int) (rep_pair (rep_slice al) (rep_pair (rep_slice am) (rep_pair rep_int (rep_pair rep_int (rep_pair rep_int rep_int))))))) : rep dm w_.route _) x76 ((rep_pair rep_int (rep_pair rep_int rep_int)) : rep dm x76 _) x80 ((rep_pair (rep_slice dc) rep_int) : rep dm x80 _) ex82) fun ri ke dg j0 bm hz => ?_
      replace ak := ak.mono bm
      replace al := al.mono bm
      replace am := am.mono bm
      replace an := an.mono bm
      replace ao := ao.mono bm
      replace ap := ap.mono bm
      replace bb := bb.mono bm
      replace bc := bc.mono bm
      replace bn := bn.mono bm
      replace bo := bo.mono bm
      replace bz := bz.mono bm
      replace b9 := b9.mono bm
      replace ca := ca.mono bm
      replace cb := cb.mono bm
      replace dc := dc.mono bm
      replace fq := fq.mono bm
      obtain ⟨ei, ej, ek, rfl, d0, d1, d2⟩ := j0
      refine ⟨.one (.c (.func (.func 106) #[] #[.pointer (some ⟨ei, 0, none⟩), .pointer (some ⟨ej, 0, none⟩), .pointer (some ⟨ek, 0, none⟩)])), rfl, fun i1 (mf : Kn 101 (K65e8 d f ae af x_v21 ag ah ai aj a3 a5 a7 a8) ((82, .one (.c (.func (.func 106) #[] #[.pointer (some ⟨ei, 0, none⟩), .pointer (some ⟨ej, 0, none⟩), .pointer (some ⟨ek, 0, none⟩)]))) :: (tA 81 (K65c2 bj x80 bl)) :: (tA 77 (K65c4 x76)) :: (tA 73 (K65c9 g w_ p l q o u)) :: (tP 9 3 0) :: (tI 49 x_v21) :: (K65m12 x35 au av ax x44 az aw ay aq ar)) i1) => hK _ _ hz.plOk ?_⟩
      have fu : Kn 101 (K65e8 d f ae af x_v21 ag ah ai aj a3 a5 a7 a8) ((82, .one (.c (.func (.func 106) #[] #[.pointer (some ⟨ei, 0, none⟩), .pointer (some ⟨ej, 0, none⟩), .pointer (some ⟨ek, 0, none⟩)]))) :: (tP 9 3 0) :: (tI 49 x_v21) :: (K65m12 x35 au av ax x44 az aw ay aq ar)) i1 := mf.keep [82, 9, 49, 48, 47, 8, 7, 6, 3, 1] (by rfl)
      refine wpD_end (by kernel_rfl) (wp_block ?_)
      obtain ⟨gh, ji, a6⟩ := bnd a6
      refine wp_rangeJ (.func (.func 106) #[] #[.pointer (some ⟨ei, 0, none⟩), .pointer (some ⟨ej, 0, none⟩), .pointer (some ⟨ek, 0, none⟩)]) fu (by rfl) rfl (fun _ _ => by kernel_rfl) fun cn ir => ?_
      obtain ⟨jb, m9, j7, np⟩ := Mem.loopBegin hz hq.marks hq.of cn
      have jt : JOk (fun (s : List (Option (List (Int × Rg)))) (h' : Heap) (w' : World) => ∃ (Fj : Fr) (a2 : Option Addr) (a4 : Nat) (bk : List (Option Nat)), LoopFr w h Fj ((dg).heap.size + 1) cn ((dg).heap.size :: ((co).heap.size :: c0)) ∧ Mem Fj h' (K65e8 d f ae af x_v21 ag ah ai aj a3 a5 a7 a8) [⟨(K65c11 g w_ p l q o u y ab z ac aa ad), some 115⟩, ⟨[.slice a2 s.length a4], some 123⟩, ⟨(K65c3 x52), none⟩, ⟨[.int .i64 x_v21], some 3⟩, ⟨(K65c3 x52), some 153⟩, ⟨(K65c1 a0 x59 a1), none⟩, ⟨(K65c4 x76), none⟩, ⟨(K65c2 bj x80 bl), none⟩] [⟨a2, s.length, a4, 122, 1, (List.map Value.map bk), 0⟩] w' ∧ MapFam h' Fj bk s ∧ Heap.le ke h') := ⟨fun s h' w' hj => by obtain ⟨_, a2, a4, bk, _, hm, e2, _⟩ := hj; exact hm.has, fun s h' h'' w' w'' hj hb hle hn => by obtain ⟨Fj, a2, a4, bk, hlf, hm, e2, hle0⟩ := hj; exact ⟨Fj, a2, a4, bk, hlf, hm.call hb hle hn, e2.mono hle, Heap.le_trans hle0 hle⟩⟩
      have kw := MapFam.up fq (fun b es c hb => j7 _ _ hb)
      refine ⟨_, control_Route_passes_1_it dd jt (fun (s : List (Option (List (Int × Rg)))) (x83 : Int) (x84 : Int) => ((((idx s x83).bind fun x87 =>
         ((idx s x83).bind fun x92 =>
         (x92.bind fun gd =>
         ((some (lookD gd x_v21 ((Rg.mk 0 0) : Rg))).bind fun x95 =>
         (x87.bind fun gf =>
         ((upd s x83 (some (put? gf x_v21 (Rg.mk x95.1.lo x84)))).bind fun d8 =>
         some d8)))))) : Option (List (Option (List (Int × Rg))))).bind fun s1 => some (s1, true))) ?_ cy ⟨jb, cp, ct, em, m9, np, kw, Heap.le_refl _⟩ x82.1 d0 x82.2.1 d1 x82.2.2 d2 ji, ?_⟩
      ·
       intro s x83 x84 s' pv ck fc k2  fh
       obtain ⟨jc, a2, a4, bk, fx, db, e2, bf⟩ := k2
       obtain ⟨qi, bv, fh⟩ := bnd fh
       cases fh
       replace ak := ak.mono bf
       replace al := al.mono bf
       replace am := am.mono bf
       replace an := an.mono bf
       replace ao := ao.mono bf
       replace ap := ap.mono bf
       replace bb := bb.mono bf
       replace bc := bc.mono bf
       replace bn := bn.mono bf
       replace bo := bo.mono bf
       replace bz := bz.mono bf
       replace b9 := b9.mono bf
       replace ca := ca.mono bf
       replace cb := cb.mono bf
       replace dc := dc.mono bf
       replace d0 := d0.mono bf
       replace d1 := d1.mono bf
       replace d2 := d2.mono bf
       replace db : Mem jc ck (K65e8 d f ae af x_v21 ag ah ai aj a3 a5 a7 a8) [⟨(K65c11 g w_ p l q o u y ab z ac aa ad), some 115⟩, ⟨[.slice a2 s.length a4], some 123⟩, ⟨(K65c3 x52), none⟩, ⟨[.int .i64 x_v21], some 3⟩, ⟨(K65c3 x52), some 153⟩, ⟨(K65c1 a0 x59 a1), none⟩, ⟨(K65c4 x76), none⟩, ⟨(K65c2 bj x80 bl), none⟩] [⟨a2, s.length, a4, 122, 1, (List.map Value.map bk), 0⟩] fc := db
       refine yields2 ir (db.ext fx.loop) ?_
       have mg : Kn 101 (K65e8 d f ae af x_v21 ag ah ai aj a3 a5 a7 a8) [(tI 84 x84), (tI 83 x83), (tP 9 3 0), (tP 3 1 0)] _ := (((fu.keep [9, 3] (by rfl)).put (k := 83) (by decide) (.one (.c (.int .i64 x83)))).put (k := 84) (by decide) (.one (.c (.int .i64 x84))))
       refine ws_seq (ws_region_from (by kernel_rfl) (R_runk 0 1 [13, 84, 9, 3] [(tI 13 x83), (tI 84 x84), (tP 9 3 0), (tP 3 1 0)] mg db.plOk (by kernel_rfl) fun q2 mh => ?_))
       refine wpFrom_end (by decide) (ws_region_from (by kernel_rfl) (R_runk 0 1 [14, 13, 9, 3] [(tI 14 x84), (tI 13 x83), (tP 9 3 0), (tP 3 1 0)] mh db.plOk (by kernel_rfl) fun q3 mi => ?_))
       refine wpFrom_end (by decide) ?_
       refine ⟨db.ext fx.loop, ?_⟩
       obtain ⟨ff, na, j8, cw⟩ := Mem.loopStep db fx { cn with state := .busy }
       have c5 := MapFam.up e2 j8
       replace cw : Mem ff ck (K65e8 d f ae af x_v21 ag ah ai aj a3 a5 a7 a8) [⟨(K65c11 g w_ p l q o u y ab z ac aa ad), some 115⟩, ⟨[.slice a2 s.length a4], some 123⟩, ⟨(K65c3 x52), none⟩, ⟨[.int .i64 x_v21], some 3⟩, ⟨(K65c3 x52), some 153⟩, ⟨(K65c1 a0 x59 a1), none⟩, ⟨(K65c4 x76), none⟩, ⟨(K65c2 bj x80 bl), none⟩] [⟨a2, s.length, a4, 122, 1, (List.map Value.map bk), 0⟩] (World.putObj fc ((dg).heap.size + 1) (.loop { cn with state := .busy })) := cw
       refine ws_block (ws_region_G (by kernel_rfl) (by kernel_rfl) ?_)
       replace cw := cw.drew
       refine wpG_of_D [] (K65e8 d f ae af x_v21 ag ah ai aj a3 a5 a7 a8) [⟨(K65c11 g w_ p l q o u y ab z ac aa ad), some 115⟩, ⟨[.slice a2 s.length a4], some 123⟩, ⟨(K65c3 x52), none⟩, ⟨[.int .i64 x_v21], some 3⟩, ⟨(K65c3 x52), some 153⟩, ⟨(K65c1 a0 x59 a1), none⟩, ⟨(K65c4 x76), none⟩, ⟨(K65c2 bj x80 bl), none⟩] ?_
       refine D_run [0, 1] [1, 0] [86, 85, 14, 13, 9, 3] [(tI 86 x83), (tS 85 a2 s.length a4), (tI 14 x84), (tI 13 x83), (tP 9 3 0), (tP 3 1 0)] (fun _ _ _ _ _ h => h) mi cw.plOk (by kernel_rfl) (by rfl) (by kernel_rfl) fun q4 mj => ?_
       obtain ⟨x87, ex87, bv⟩ := bnd bv
       obtain ⟨ij, io, ov⟩ := idx_some ex87
       have m4 := lt_of_idx ij io
       obtain ⟨b4, ib⟩ : ∃ ob, bk[(x83 : Int).toNat]? = some ob := ⟨_, List.getElem?_eq_getElem (by rw [c5.len]; exact m4)⟩
       obtain ⟨cf, c4⟩ := row_addr cw (i := 0) rfl (b0 := 0 + (x83 : Int).toNat * 1) (by show _ < (List.map Value.map bk).length; rw [List.length_map, c5.len]; omega)
       have dt : Mem ff ck [(d, 0), (f, 0), (ae, af + (x_v21 : Int).toNat * 3), (ag, 0), (ah, 0), (ai, aj + (x_v21 : Int).toNat * 2), (a3, a5 + (x_v21 : Int).toNat * 3), (a7, a8 + (x_v21 : Int).toNat * 2), (cf, 0 + (x83 : Int).toNat * 1)] [⟨(K65c11 g w_ p l q o u y ab z ac aa ad), some 115⟩, ⟨[.slice a2 s.length a4], some 123⟩, ⟨(K65c3 x52), none⟩, ⟨[.int .i64 x_v21], some 3⟩, ⟨(K65c3 x52), some 153⟩, ⟨(K65c1 a0 x59 a1), none⟩, ⟨(K65c4 x76), none⟩, ⟨(K65c2 bj x80 bl), none⟩, ⟨[], none⟩] [⟨a2, s.length, a4, 122, 1, (List.map Value.map bk), 0⟩] (World.drew (World.putObj fc ((dg).heap.size + 1) (.loop { cn with state := .busy }))) := cw.addPlc (cs := []) (fun j c hj => by simp at hj) rfl (by kernel_rfl) (by kernel_rfl)
       have dn := fam_cell ib
       refine D_index 2 (x83) [.map b4] (fun _ _ _ _ _ h => h) rfl rfl (rfl) rfl (by decide) (by kernel_rfl) (by kernel_rfl) mj cw.plOk (by rfl) (by rfl) (by rfl) c4 (by rfl) ij io (by kernel_rfl) fun pd (ml : Kn 101 [(d, 0), (f, 0), (ae, af + (x_v21 : Int).toNat * 3), (ag, 0), (ah, 0), (ai, aj + (x_v21 : Int).toNat * 2), (a3, a5 + (x_v21 : Int).toNat * 3), (a7, a8 + (x_v21 : Int).toNat * 2), (cf, 0 + (x83 : Int).toNat * 1)] [(tP 87 8 0), (tI 86 x83), (tS 85 a2 s.length a4), (tI 14 x84), (tI 13 x83), (tP 9 3 0), (tP 3 1 0)] pd) => ?_
       refine D_run [3, 4, 5, 6] [6, 5, 4, 3, 2, 1, 0] [91, 90, 89, 88, 14, 9] [(tI 91 x83), (tS 90 a2 s.length a4), (tI 89 x_v21), (88, .one (.c (.map b4))), (tI 14 x84), (tP 9 3 0)] (fun _ _ _ _ _ h => h) ml (PlOk.peek dt.plOk dt 0 8 rfl rfl c4 [.map b4] (dn _)) (by kernel_rfl) (by rfl) (by kernel_rfl) fun q5 mm => ?_
       obtain ⟨x92, ex92, bv⟩ := bnd bv
       obtain ⟨ik, ip, ow⟩ := idx_some ex92
       have m5 := lt_of_idx ik ip
       obtain ⟨fa, ic⟩ : ∃ ob, bk[(x83 : Int).toNat]? = some ob := ⟨_, List.getElem?_eq_getElem (by rw [c5.len]; exact m5)⟩
       obtain ⟨cr, dz⟩ := row_addr dt (i := 0) rfl (b0 := 0 + (x83 : Int).toNat * 1) (by show _ < (List.map Value.map bk).length; rw [List.length_map, c5.len]; omega)
       have cd : Mem ff ck (K65e10 d f ae af x_v21 ag ah ai aj a3 a5 a7 a8 cf x83 cr) [⟨(K65c11 g w_ p l q o u y ab z ac aa ad), some 115⟩, ⟨[.slice a2 s.length a4], some 123⟩, ⟨(K65c3 x52), none⟩, ⟨[.int .i64 x_v21], some 3⟩, ⟨(K65c3 x52), some 153⟩, ⟨(K65c1 a0 x59 a1), none⟩, ⟨(K65c4 x76), none⟩, ⟨(K65c2 bj x80 bl), none⟩, ⟨[], none⟩, ⟨[], none⟩] [⟨a2, s.length, a4, 122, 1, (List.map Value.map bk), 0⟩] (World.drew (World.putObj fc ((dg).heap.size + 1) (.loop { cn with state := .busy }))) := dt.addPlc (cs := []) (fun j c hj => by simp at hj) rfl (by kernel_rfl) (by kernel_rfl)
       have ey := fam_cell ic
       refine D_index 7 (x83) [.map fa] (fun _ _ _ _ _ h => h) rfl rfl (rfl) rfl (by decide) (by kernel_rfl) (by kernel_rfl) mm (PlOk.peek dt.plOk dt 0 8 rfl rfl c4 [.map b4] (dn _)) (by rfl) (by rfl) (by rfl) dz (by rfl) ik ip (by kernel_rfl) fun pe (mo : Kn 101 (K65e10 d f ae af x_v21 ag ah ai aj a3 a5 a7 a8 cf x83 cr) [(tP 92 9 0), (tI 91 x83), (tS 90 a2 s.length a4), (tI 89 x_v21), (88, .one (.c (.map b4))), (tI 14 x84), (tP 9 3 0)] pe) => ?_
       refine D_run [8, 9, 12] [12, 9, 8, 7, 6, 5, 4, 3, 2, 1, 0] [97, 94, 93, 89, 88] [(tI 97 x84), (tI 94 x_v21), (93, .one (.c (.map fa))), (tI 89 x_v21), (88, .one (.c (.map b4)))] (fun _ _ _ _ _ h => h) mo (PlOk.peek (PlOk.peek cd.plOk cd 0 8 rfl rfl c4 [.map b4] (dn _)) cd 0 9 rfl rfl dz [.map fa] (ey _)) (by kernel_rfl) (by rfl) (by kernel_rfl) fun q6 mp => ?_
       obtain ⟨gd, jf, bv⟩ := bnd bv
       obtain ⟨dx, p7, py, km, j9, jo⟩ := c5.get (i := (x83 : Int).toNat) (m := gd) (by rw [ow, jf])
       obtain rfl : fa = some dx := by have := ic.symm.trans km; simpa using this
       obtain ⟨x95, ex95, bv⟩ := bnd bv
       refine D_loud 10 rfl (by kernel_rfl) (by decide) (rfl) fun K hK => ?_
       refine wp_lookup (KT := 3) (E := 39) (k := (x_v21 : Int)) ((Rg.mk 0 0) : Rg) (.c (.int .i64 x_v21)) mp rfl rfl (by decide) (by rfl) (by rfl) (by kernel_rfl) (KL.int (by kernel_rfl)) (cd.ext j9) jo rfl (by kernel_rfl) ⟨_, rfl, ((rep_pair rep_int rep_int) : rep ck ((Rg.mk 0 0) : Rg) _)⟩ fun rj iu => ?_
       rw [Option.some.inj ex95] at iu ⊢
       obtain ⟨_, rfl, ⟨_, _, rfl, rfl, rfl⟩⟩ := iu
       refine ⟨.one (.agg [.int .i64 x95.1.lo, .int .i64 x95.1.hi]), rfl, fun pf (mq : Kn 101 (K65e10 d f ae af x_v21 ag ah ai aj a3 a5 a7 a8 cf x83 cr) [(tA 95 [.int .i64 x95.1.lo, .int .i64 x95.1.hi]), (tI 97 x84), (tI 94 x_v21), (93, .one (.c (.map (some dx)))), (tI 89 x_v21), (88, .one (.c (.map b4)))] pf) => hK _ _ (PlOk.peek (PlOk.peek cd.plOk cd 0 8 rfl rfl c4 [.map b4] (dn _)) cd 0 9 rfl rfl dz [.map (some dx)] (ey _)) ?_⟩
       refine D_run [11, 13] [13, 11, 10, 12, 9, 8, 7, 6, 5, 4, 3, 2, 1, 0] [98, 89, 88] [(tA 98 [.int .i64 x95.1.lo, .int .i64 x84]), (tI 89 x_v21), (88, .one (.c (.map b4)))] (fun _ _ _ _ _ h => h) mq (PlOk.peek (PlOk.peek cd.plOk cd 0 8 rfl rfl c4 [.map b4] (dn _)) cd 0 9 rfl rfl dz [.map (some dx)] (ey _)) (by kernel_rfl) (by rfl) (by kernel_rfl) fun pg hl => ?_
       obtain ⟨gf, jg, bv⟩ := bnd bv
       obtain ⟨gw, p8, pz, g9, g2, jp⟩ := c5.get (i := (x83 : Int).toNat) (m := gf) (by rw [ov, jg])
       obtain rfl : b4 = some gw := by have := ib.symm.trans g9; simpa using this
       obtain ⟨d8, jl, bv⟩ := bnd bv
       obtain ⟨_, _, iy⟩ := upd_some jl
       refine D_loud 14 rfl (by kernel_rfl) (by decide) (rfl) fun K hK => ?_
       refine wp_update (KT := 3) (E := 39) (k := (x_v21 : Int)) (x := ((Rg.mk x95.1.lo x84) : Rg)) (.c (.int .i64 x_v21)) (.agg [.int .i64 x95.1.lo, .int .i64 x84]) hl cd rfl rfl (by rfl) (by rfl) (by rfl) (by kernel_rfl) (KL.int (by kernel_rfl)) g2 jp rfl ⟨_, rfl, ((rep_pair rep_int rep_int) : rep ck ((Rg.mk x95.1.lo x84) : Rg) _)⟩ fun p9 p0 i5 jq nr => ?_
       obtain ⟨gr, hr, he, du⟩ := MapFam.changeL c5 g9 g2 jq nr na
       rw [← iy] at he
       have nz : s.length = d8.length := by rw [iy]; simp
       replace du : Mem gr ck (K65e10 d f ae af x_v21 ag ah ai aj a3 a5 a7 a8 cf x83 cr) [⟨(K65c11 g w_ p l q o u y ab z ac aa ad), some 115⟩, ⟨[.slice a2 s.length a4], some 123⟩, ⟨(K65c3 x52), none⟩, ⟨[.int .i64 x_v21], some 3⟩, ⟨(K65c3 x52), some 153⟩, ⟨(K65c1 a0 x59 a1), none⟩, ⟨(K65c4 x76), none⟩, ⟨(K65c2 bj x80 bl), none⟩, ⟨[], none⟩, ⟨[], none⟩] [⟨a2, s.length, a4, 122, 1, (List.map Value.map bk), 0⟩] i5 := du
       refine hK _ _ (PlOk.peek (PlOk.peek du.plOk du 0 8 rfl rfl c4 [.map (some gw)] (dn _)) du 0 9 rfl rfl dz [.map (some dx)] (ey _)) ?_
       have ms : Kn 101 (K65e10 d f ae af x_v21 ag ah ai aj a3 a5 a7 a8 cf x83 cr) [] pg := hl.keep [] (by rfl)
       refine wpD_end (by kernel_rfl) ?_
       have qc := ms
       have h0 : Mem gr ck [(d, 0), (f, 0), (ae, af + (x_v21 : Int).toNat * 3), (ag, 0), (ah, 0), (ai, aj + (x_v21 : Int).toNat * 2), (a3, a5 + (x_v21 : Int).toNat * 3), (a7, a8 + (x_v21 : Int).toNat * 2), (cf, 0 + (x83 : Int).toNat * 1), (cr, 0 + (x83 : Int).toNat * 1)] [⟨[.slice g w_.route.legs.length p, .int .i64 w_.route.turn.lo, .int .i64 w_.route.turn.hi, .slice l w_.route.buses.length q, .slice o w_.route.spares.length u, .int .i64 w_.route.unit, .int .i64 w_.route.gap, .int .i64 w_.route.fr, .int .i64 w_.route.to_, .slice y w_.acts.holds.length ab, .slice z w_.acts.turns.length ac, .slice aa w_.acts.spares.length ad], some 115⟩, ⟨[.slice a2 d8.length a4], some 123⟩, ⟨[.int .i64 x52.stop, .int .i64 x52.tm, .int .i64 x52.turned], none⟩, ⟨[.int .i64 x_v21], some 3⟩, ⟨[.int .i64 x52.stop, .int .i64 x52.tm, .int .i64 x52.turned], some 153⟩, ⟨[.slice a0 x59.legs.length a1, .int .i64 x59.turn], none⟩, ⟨[.int .i64 x76.stop, .int .i64 x76.tm, .int .i64 x76.turned], none⟩, ⟨[.slice bj x80.legs.length bl, .int .i64 x80.turn], none⟩, ⟨[], none⟩, ⟨[], none⟩] [⟨a2, d8.length, a4, 122, 1, (List.map Value.map bk), 0⟩] i5 := by rw [← nz]; exact du
       obtain rfl := Option.some.inj bv
       refine ⟨h0.ext hr.loop, ?_⟩
       rw [ir.eq]
       obtain ⟨jd, nb, ka, ns⟩ := Mem.loopStep h0 hr cn
       have kx := MapFam.up he ka
       exact ⟨rfl, ck, (Heap.le_refl _), jd, a2, a4, bk, nb, ((ns).cutPl 8 (by kernel_rfl)), kx, bf⟩
      ·
       intro pr j2
       obtain ⟨kf, _, k3⟩ := j2
       obtain ⟨pt, fi, fk, gx, hs, h3, ky, bg⟩ := k3
       refine ⟨h3.ext hs.loop, ?_⟩
       obtain ⟨gs, ht, kb, e8⟩ := Mem.loopStep h3 hs { cn with state := .exhausted }
       have kz := MapFam.up ky kb
       replace ak := ak.mono bg
       replace al := al.mono bg
       replace am := am.mono bg
       replace an := an.mono bg
       replace ao := ao.mono bg
       replace ap := ap.mono bg
       replace bb := bb.mono bg
       replace bc := bc.mono bg
       replace bn := bn.mono bg
       replace bo := bo.mono bg
       replace bz := bz.mono bg
       replace b9 := b9.mono bg
       replace ca := ca.mono bg
       replace cb := cb.mono bg
       replace dc := dc.mono bg
       replace d0 := d0.mono bg
       replace d1 := d1.mono bg
       replace d2 := d2.mono bg
       replace e8 : Mem gs kf (K65e8 d f ae af x_v21 ag ah ai aj a3 a5 a7 a8) [⟨(K65c11 g w_ p l q o u y ab z ac aa ad), some 115⟩, ⟨[.slice fi gh.length fk], some 123⟩, ⟨(K65c3 x52), none⟩, ⟨[.int .i64 x_v21], some 3⟩, ⟨(K65c3 x52), some 153⟩, ⟨(K65c1 a0 x59 a1), none⟩, ⟨(K65c4 x76), none⟩, ⟨(K65c2 bj x80 bl), none⟩] [⟨fi, gh.length, fk, 122, 1, (List.map Value.map gx), 0⟩] (World.putObj pr ((dg).heap.size + 1) (.loop { cn with state := .exhausted })) := e8
       refine wp_region_from (R_runk 0 2 [49, 48, 47, 8, 7, 6, 3, 1] ((tI 49 (IntKind.i64.wrap (x_v21 + 1))) :: (K65m12 x35 au av ax x44 az aw ay aq ar)) fu e8.plOk (by kernel_rfl) fun q8 mu => ?_)
       refine wpFrom_end (by decide) ?_
       exact Exists.intro dd ⟨Nat.lt_succ_self _, Exists.intro gh ⟨(IntKind.i64.wrap (x_v21 + 1)), fi, fk, gx, gs, ((dg).heap.size :: ((co).heap.size :: c0)), _, _, rfl, ((mu.keep [49, 48, 47, 8, 7, 6, 3, 1] (by rfl)).cut 2 (by kernel_rfl)), (e8.cutPl 2 (by kernel_rfl)), (Heap.le_trans b3 (Heap.le_trans bx (Heap.le_trans br (Heap.le_trans bm bg)))), kz, ht.of, ht.marks, a6⟩⟩
    ·
     rw [fn, cond_false] at a6
     refine wp_exit ?_
     obtain rfl := Option.some.inj a6
     exact Exists.intro bh ⟨bi, b6, b1, c0, _, _, rfl, (fs.keep [3] (by rfl)), e7, b3, ez, ie, h6⟩
  ·
   rintro _ i6 ⟨b5, b7, dj, dw, el, gj, ex, rfl, mv, h4, ch, kr, n2, nv⟩
   replace ak := ak.mono ch
   replace al := al.mono ch
   replace am := am.mono ch
   replace an := an.mono ch
   replace ao := ao.mono ch
   replace ap := ap.mono ch
   replace bb := bb.mono ch
   replace bc := bc.mono ch
   replace bn := bn.mono ch
   replace bo := bo.mono ch
   refine wp_seq (wp_region_from (R_runk 0 2 [2] [(tS 2 b5 dv.length b7)] mv h4.plOk (by kernel_rfl) fun ph mw => ?_))
   refine wpFrom_end (by decide) (wp_ret ?_)
   obtain ⟨cx, gy, H⟩ := bnd H
   obtain ⟨kg, gu, ds, n3, nw, nt, fp⟩ := kr.settleAll h4 n2 nv gy
   have h9 : dv.length = (cx.map IMap.mk).length := by rw [mapM_id gy]; simp
   replace ak := ak.mono ds
   replace al := al.mono ds
   replace am := am.mono ds
   replace an := an.mono ds
   replace ao := ao.mono ds
   replace ap := ap.mono ds
   have my : Kn 101 [(d, 0), (f, 0)] [(2, .one (.c (.slice b5 ((cx.map IMap.mk).length) b7)))] ph := by rw [← h9]; exact mw
   have h5 : Mem gu kg [(d, 0), (f, 0)] [⟨[.slice g w_.route.legs.length p, .int .i64 w_.route.turn.lo, .int .i64 w_.route.turn.hi, .slice l w_.route.buses.length q, .slice o w_.route.spares.length u, .int .i64 w_.route.unit, .int .i64 w_.route.gap, .int .i64 w_.route.fr, .int .i64 w_.route.to_, .slice y w_.acts.holds.length ab, .slice z w_.acts.turns.length ac, .slice aa w_.acts.spares.length ad], some 115⟩, ⟨[.slice b5 ((cx.map IMap.mk).length) b7], some 123⟩] [⟨b5, (cx.map IMap.mk).length, b7, 122, 1, (List.map Value.map dj), 0⟩] i6 := by rw [← h9]; exact nt
   obtain ⟨g6, c7, oi, f5⟩ := h5.settle (i := 0) rfl
   replace ak := ak.mono c7
   replace al := al.mono c7
   replace am := am.mono c7
   replace an := an.mono c7
   replace ao := ao.mono c7
   replace ap := ap.mono c7
   replace fp := fp.mono c7
   replace f5 : Mem gu g6 [(d, 0), (f, 0)] [⟨(K65c11 g w_ p l q o u y ab z ac aa ad), some 115⟩, ⟨[.slice b5 ((cx.map IMap.mk).length) b7], some 123⟩] [⟨b5, (cx.map IMap.mk).length, b7, 122, 1, (List.map Value.map dj), ((List.map Value.map dj) : List Value).length⟩] i6 := f5
   have oh : RepS g6 b5 b7 (cx.map IMap.mk) := ⟨_, fp, oi, h5.rowCap (i := 0) rfl⟩
   obtain rfl := Option.some.inj H
   exact retMk_ok (bs := el) (.one (.c (.slice b5 ((cx.map IMap.mk).length) b7))) my f5 nw n3 (by kernel_rfl) ⟨_, _, rfl, oh⟩
end Go.Proofs.Ytokchpjijlebiaa
