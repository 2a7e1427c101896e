/- Each call computes its plain function. -/
import Derived.Test.YthcbemnflgjadaaProg
import Derived.Test.YthcbemnflgjadaaNmP0
import Derived.Test.YthcbemnflgjadaaNmWA
import Derived.Test.YthcbemnflgjadaaNmWB
import Derived.Test.YthcbemnflgjadaaNmWC
import Derived.Test.YthcbemnflgjadaaNmWE
set_option linter.all false
namespace Go.Proofs.Ythcbemnflgjadaa
open Go Go.RowKit
open Rep (rep)
open KRep (kv)
open VRep (rv)
set_option maxRecDepth 100000 in
set_option maxHeartbeats 4000000 in
theorem lane_Worst_1_ok (n : Nat) {h : Heap} {w : World} (hh : Has h w) (b : Int) (q0 : Some) {b_q0 : Nat} (hb_q0 : BoxS h b_q0 q0) (q1 : Yard) {b_q1 : Nat} (hb_q1 : BoxS h b_q1 q1) {r : Int} (H : lane_Worst_1 n b q0 q1 = some r) :
  Calls Try.prog 56 #[.int .i64 b, .pointer (some ⟨b_q0, 0, none⟩), .pointer (some ⟨b_q1, 0, none⟩)] w (Ret (fun h v => v = .int .i64 r) h w) := by
 obtain ⟨_, hx_q0, hc_q0⟩ := id hb_q0
 obtain ⟨_, _, rfl, rfl, ⟨_, _, rfl, rfl, ⟨_, _, rfl, rfl, ⟨_, _, rfl, rfl, ⟨_, _, rfl, rfl, ⟨_, _, rfl, rfl, ⟨_, _, rfl, rfl, rfl⟩⟩⟩⟩⟩⟩⟩ := hx_q0
 obtain ⟨_, hx_q1, hc_q1⟩ := id hb_q1
 obtain ⟨_, _, rfl, ⟨i, l, rfl, ar⟩, ⟨_, _, rfl, ⟨a, d, rfl, ak⟩, rfl⟩⟩ := hx_q1
 refine enter' (e := [(b_q0, 0), (b_q1, 0)]) 14 [.c (.int .i64 b), .c (.ptr 0 0), .c (.ptr 1 0)] Try.func56 rfl rfl rfl rfl fun t hk => ?_
 have hm := Mem.begin h w hh
 replace hm := hm.addPlc (o := 0) (cs := [.bool q0.a0, .bool q0.a1, .bool q0.a2, .bool q0.a3, .bool q0.a4, .bool q0.a5, .bool q0.a6, .bool q0.a7]) (fun j c hj => by rw [Nat.zero_add]; exact hc_q0 j _ (map_get hj)) rfl (by kernel_rfl) (by kernel_rfl)
 replace hm := hm.addPlc (o := 0) (cs := [.slice i q1.room.length l, .slice a q1.buses.length d, .int .i64 q1.broken]) (fun j c hj => by rw [Nat.zero_add]; exact hc_q1 j _ (map_get hj)) rfl (by kernel_rfl) (by kernel_rfl)
 replace hm : Mem ⟨w, h, noX⟩ h [(b_q0, 0), (b_q1, 0)] [⟨[.bool q0.a0, .bool q0.a1, .bool q0.a2, .bool q0.a3, .bool q0.a4, .bool q0.a5, .bool q0.a6, .bool q0.a7], none⟩, ⟨[.slice i q1.room.length l, .slice a q1.buses.length d, .int .i64 q1.broken], none⟩] [] w := hm
 unfold lane_Worst_1 at H
 refine wp_seq (wp_region_from (Rk 0 1 [(tI 0 b), (tP 1 0 0), (tP 2 1 0)] hk hm fun ax af => ?_))
 refine wf (wp_seq (wp_seq (wp_region_from (Rk 0 1 [(tI 5 b), (tI 0 b), (tP 1 0 0), (tP 2 1 0)] af hm fun ay m => ?_))))
 obtain ⟨x6, ex6, H⟩ := bnd H
 obtain ⟨ag, ai⟩ := rng_some ex6
 refine R_one 1 (.one (.c (.ptr 0 (0 + (b : Int).toNat * 1)))) rfl (rfl) rfl (run_indexA (E := 4) m rfl (by kernel_rfl) (by kernel_rfl) (by rfl) (by rfl) ag ai) (m.put (by decide) _) fun ao (p : Kn 14 [(b_q0, 0), (b_q1, 0)] [(tP 6 0 (0 + (b : Int).toNat * 1)), (tI 5 b), (tI 0 b), (tP 1 0 0), (tP 2 1 0)] ao) => ?_
 obtain ⟨x7, ex7, H⟩ := bnd H
 obtain ⟨_, _, am⟩ := idx_some ex7
 refine R_one 2 (.one (.c (.bool x7))) rfl (rfl) rfl (run_loadAt1 p hm.plOk rfl (by rfl) rfl (by kernel_rfl) (arr_get (fun (y : Bool) => ([.bool y] : List SC)) 1 (fun _ => rfl) [] [] q0.toL _ _ am rfl rfl)) (p.put (by decide) _) fun u (aa : Kn 14 [(b_q0, 0), (b_q1, 0)] [(tB 7 x7), (tP 6 0 (0 + (b : Int).toNat * 1)), (tI 5 b), (tI 0 b), (tP 1 0 0), (tP 2 1 0)] u) => ?_
 have g : Kn 14 [(b_q0, 0), (b_q1, 0)] [(tB 7 x7), (tI 0 b), (tP 2 1 0)] u := aa.kp
 refine wf (wC (x7) g (fun f => ?_) (fun f => ?_))
 ·
  rw [cond_t f] at H
  refine wp_seq (wp_region_from (Rk 0 1 [(tI 4 2001)] g hm fun au ab => ?_))
  refine wf (wp_ret ?_)
  obtain rfl := Option.some.inj H
  exact rt (.one (.c (.int .i64 2001))) ab hm rfl
 ·
  rw [cond_f f] at H
  refine wp_skip (wp_seq (wp_region_from (Rk 0 3 [(tI 10 b), (tS 9 a q1.buses.length d)] g hm fun av ac => ?_)))
  obtain ⟨x11, ex11, H⟩ := bnd H
  obtain ⟨ah, aj, an⟩ := idx_some ex11
  obtain ⟨k, s, aq, x, al, z⟩ := ak.get (by decide) an
  obtain ⟨_, _, rfl, rfl, ⟨_, _, rfl, rfl, rfl⟩⟩ := al
  have q := hm.addPlc (b := k) (o := s + (b : Int).toNat * 3) (cs := [.int .i64 x11.lo, .int .i64 x11.hi, .int .i64 x11.turn]) (fun j c hj => z j _ (map_get hj)) rfl (by kernel_rfl) (by kernel_rfl)
  refine R_index 3 (b) rfl rfl (rfl) rfl (by decide) ac (by rfl) (by rfl) (by rfl) x (by rfl) ah aj (by kernel_rfl) fun ap (ad : Kn 14 [(b_q0, 0), (b_q1, 0), (k, s + (b : Int).toNat * 3)] [(tP 11 2 0), (tI 10 b), (tS 9 a q1.buses.length d)] ap) => ?_
  refine Rk 4 3 [(tI 4 x11.turn)] ad q fun aw ae => ?_
  refine wf (wp_ret ?_)
  obtain rfl := Option.some.inj H
  exact rt (.one (.c (.int .i64 x11.turn))) ae q rfl
abbrev K59m1 (vals : List Int) (a_vals : Option Addr) (c_vals : Nat) : TM := [(tI 7 ((vals.length : Nat) : Int)), (tS 6 a_vals vals.length c_vals), (tI 3 0)]
set_option maxRecDepth 100000 in
set_option maxHeartbeats 4000000 in
theorem cmp_Or_int_ok (n : Nat) {h : Heap} {w : World} (hh : Has h w) (vals : List Int) {a_vals : Option Addr} {c_vals : Nat} (hr_vals : RepS h a_vals c_vals vals) {r : Int} (H : cmp_Or_int n vals = some r) :
  Calls Try.prog 59 #[.slice a_vals vals.length c_vals] w (Ret (fun h v => v = .int .i64 r) h w) := by
 refine enter 18 [.c (.slice a_vals vals.length c_vals)] Try.func59 rfl rfl rfl rfl fun t hk => ?_
 have hm := Mem.begin h w hh
 unfold cmp_Or_int at H
 refine wp_seq (wp_region_from (Rk 0 1 [(tS 0 a_vals vals.length c_vals)] hk hm fun az ag => ?_))
 refine wf (wp_seq (wp_region_from (Rk 0 1 [(tI 3 0), (tS 0 a_vals vals.length c_vals)] ag hm fun a1 aj => ?_)))
 refine wf (wp_seq (wp_seq (wp_region_from (Rk 0 3 ((tI 8 0) :: (K59m1 vals a_vals c_vals)) aj hm fun a6 ao => ?_))))
 refine wf ?_
 obtain ⟨aa, y, H⟩ := bnd H
 refine wp_mid' (fun a' w' => ∃ (ac : Unit) (s : Array Value) (e : Heap), a' = ⟨s, []⟩ ∧ Kn 18 [] [(tI 3 0)] s ∧ Mem ⟨w, h, noX⟩ e [] [] [] w' ∧ Heap.le h e ∧ aa = .go ac) ?_ ?_
 ·
  refine wp_block ?_
  refine wp_loop_n (fun av a' w' => ∃ (x_v10 : Int) (u : Array Value) (f : Heap), a' = ⟨u, []⟩ ∧ Kn 18 [] ((tI 8 x_v10) :: (K59m1 vals a_vals c_vals)) u ∧ Mem ⟨w, h, noX⟩ f [] [] [] w' ∧ Heap.le h f ∧ cmp_Or_int_l1 av vals x_v10 = some aa) n ?_ ?_
  ·
   exact Exists.intro 0 ⟨_, _, rfl, ao.kp, hm, (Heap.le_refl _), y⟩
  ·
   rintro q _ a8 ⟨x_v10, u, f, rfl, af, p, m, a⟩
   clear y
   obtain _ | q := q
   ·
    rw [cmp_Or_int_l1] at a; cases a
   rw [cmp_Or_int_l1] at a
   replace hr_vals := hr_vals.mono m
   refine wp_seq (wp_region_from (Rk 0 1 ((tB 9 (decide (x_v10 < ((vals.length : Nat) : Int)))) :: (tI 8 x_v10) :: (K59m1 vals a_vals c_vals)) af p fun a0 k => ?_))
   refine wf (wp_seq (wC (decide (x_v10 < ((vals.length : Nat) : Int))) k (fun g => ?_) (fun g => ?_)))
   ·
    rw [g, cond_true] at a
    refine wp_skip (wp_seq (wp_block (wp_seq (wp_region_from ?_))))
    obtain ⟨x10, ex10, a⟩ := bnd a
    obtain ⟨ap, aq, au⟩ := idx_some ex10
    obtain ⟨x, ab, ax, ad, ar, ae⟩ := hr_vals.get (by decide) au
    obtain rfl := ar
    have d := p.addPlc (b := x) (o := ab + (x_v10 : Int).toNat * 1) (cs := [.int .i64 x10]) (fun j c hj => ae j _ (map_get hj)) rfl (by kernel_rfl) (by kernel_rfl)
    refine R_index 0 (x_v10) rfl rfl (rfl) rfl (by decide) k (by rfl) (by rfl) (by rfl) ad (by rfl) ap aq (by kernel_rfl) fun aw (ah : Kn 18 [(x, ab + (x_v10 : Int).toNat * 1)] ((tP 10 0 0) :: (tB 9 (decide (x_v10 < ((vals.length : Nat) : Int)))) :: (tI 8 x_v10) :: (K59m1 vals a_vals c_vals)) aw) => ?_
    refine Rk 1 2 ((tI 5 x10) :: (tI 8 x_v10) :: (K59m1 vals a_vals c_vals)) ah d fun a2 ai => ?_
    refine wf (wp_seq (wp_region_from (Rk 0 3 ((tB 14 (x10 != 0)) :: (tI 5 x10) :: (tI 8 x_v10) :: (K59m1 vals a_vals c_vals)) ai d fun a3 l => ?_)))
    refine wf (wC ((x10 != 0)) l (fun i => ?_) (fun i => ?_))
    ·
     rw [i, cond_true] at a
     refine wp_seq (wp_region_from (Rk 0 2 [(tI 2 x10)] l d fun a4 ak => ?_))
     refine wf (wp_ret ?_)
     obtain rfl := Option.some.inj a
     obtain rfl := Option.some.inj H
     exact rt (.one (.c (.int .i64 x10))) ak d rfl
    ·
     rw [i, cond_false] at a
     refine wp_skip (wp_region_from (Rk 0 2 ((tI 8 (IntKind.i64.wrap (x_v10 + 1))) :: (K59m1 vals a_vals c_vals)) l d fun a5 al => ?_))
     refine wf ?_
     exact Exists.intro q ⟨Nat.lt_succ_self _, Exists.intro (IntKind.i64.wrap (x_v10 + 1)) ⟨_, _, rfl, ((al.keep [8, 7, 6, 3] (by rfl)).cut 0 (by kernel_rfl)), (d.cutPl 0 (by kernel_rfl)), m, a⟩⟩
   ·
    rw [g, cond_false] at a
    refine wp_exit ?_
    obtain rfl := Option.some.inj a
    exact Exists.intro () ⟨_, _, rfl, k.kp, p, m, rfl⟩
 ·
  rintro _ a9 ⟨ac, s, e, rfl, am, z, ay, rfl⟩
  rw [Ex.bind_go] at H
  refine wp_seq (wp_region_from (Rk 0 2 [(tI 2 0)] am z fun a7 an => ?_))
  refine wf (wp_ret ?_)
  obtain rfl := Option.some.inj H
  exact rt (.one (.c (.int .i64 0))) an z rfl
abbrev K58c1 (q0 : Places) : List SC := [.int .i64 q0.a0, .int .i64 q0.a1, .int .i64 q0.a2, .int .i64 q0.a3, .int .i64 q0.a4, .int .i64 q0.a5, .int .i64 q0.a6, .int .i64 q0.a7]
abbrev K58m2 (a b : Int) (g : Fn) (d f : Array Value) (x9 x12 : Int) : TM := [(tI 23 (IntKind.i64.wrap (a - b))), (tI 18 a), (17, .one (.c (.func g d f))), (tI 15 b), (14, .one (.c (.func g d f))), (tI 13 (IntKind.i64.wrap (x9 - x12)))]
abbrev K58m3 (x16 x19 a b x9 x12 : Int) : TM := [(tI 20 (IntKind.i64.wrap (x16 - x19))), (tI 23 (IntKind.i64.wrap (a - b))), (tI 13 (IntKind.i64.wrap (x9 - x12)))]
abbrev K58m4 (a b : Int) : TM := [(tI 0 a), (tI 1 b), (tP 2 0 0), (tP 3 1 0)]
set_option maxRecDepth 100000 in
set_option maxHeartbeats 4000000 in
theorem lane_Worst_2_ok (n : Nat) {h : Heap} {w : World} (hh : Has h w) (a : Int) (b : Int) (q0 : Places) {b_q0 : Nat} (hb_q0 : BoxS h b_q0 q0) (q1 : Int → Option Int) {b_q1 : Nat} (hb_q1 : BoxS h b_q1 q1) {r : Int} (H : lane_Worst_2 n a b q0 q1 = some r) :
  Calls Try.prog 58 #[.int .i64 a, .int .i64 b, .pointer (some ⟨b_q0, 0, none⟩), .pointer (some ⟨b_q1, 0, none⟩)] w (Ret (fun h v => v = .int .i64 r) h w) := by
 obtain ⟨_, hx_q0, hc_q0⟩ := id hb_q0
 obtain ⟨_, _, rfl, rfl, ⟨_, _, rfl, rfl, ⟨_, _, rfl, rfl, ⟨_, _, rfl, rfl, ⟨_, _, rfl, rfl, ⟨_, _, rfl, rfl, ⟨_, _, rfl, rfl, rfl⟩⟩⟩⟩⟩⟩⟩ := hx_q0
 obtain ⟨_, hx_q1, hc_q1⟩ := id hb_q1
 obtain ⟨g, d, f, rfl, m⟩ := hx_q1
 refine enter' (e := [(b_q0, 0), (b_q1, 0)]) 26 [.c (.int .i64 a), .c (.int .i64 b), .c (.ptr 0 0), .c (.ptr 1 0)] Try.func58 rfl rfl rfl rfl fun t hk => ?_
 have hm := Mem.begin h w hh
 replace hm := hm.addPlc (o := 0) (cs := [.int .i64 q0.a0, .int .i64 q0.a1, .int .i64 q0.a2, .int .i64 q0.a3, .int .i64 q0.a4, .int .i64 q0.a5, .int .i64 q0.a6, .int .i64 q0.a7]) (fun j c hj => by rw [Nat.zero_add]; exact hc_q0 j _ (map_get hj)) rfl (by kernel_rfl) (by kernel_rfl)
 replace hm := hm.addPlc (o := 0) (cs := [.func g d f]) (fun j c hj => by rw [Nat.zero_add]; exact hc_q1 j _ (map_get hj)) rfl (by kernel_rfl) (by kernel_rfl)
 replace hm : Mem ⟨w, h, noX⟩ h [(b_q0, 0), (b_q1, 0)] [⟨(K58c1 q0), none⟩, ⟨[.func g d f], none⟩] [] w := hm
 unfold lane_Worst_2 at H
 refine wp_seq (wp_region_from (Rk 0 1 (K58m4 a b) hk hm fun bs ap => ?_))
 refine wf (wp_seq (wp_region_G (by kernel_rfl) ?_))
 replace hm := hm.drew
 refine wpG_of_D [] [(b_q0, 0), (b_q1, 0)] [⟨(K58c1 q0), none⟩, ⟨[.func g d f], none⟩] ?_
 refine Dr [0] [0] ((tI 7 a) :: (K58m4 a b)) ap hm fun bu ae => ?_
 obtain ⟨x8, ex8, H⟩ := bnd H
 obtain ⟨ax, ay⟩ := rng_some ex8
 refine D_one 1 (.one (.c (.ptr 0 (0 + (a : Int).toNat * 1)))) (fun _ _ _ _ _ h => h) rfl (by kernel_rfl) (by kernel_rfl) (rfl) rfl hm.plOk (fun _ h => h) (fun w => run_indexA (E := 3) ae rfl (by kernel_rfl) (by kernel_rfl) (by rfl) (by rfl) ax ay) (ae.put (by decide) _) fun bc (ab : Kn 26 [(b_q0, 0), (b_q1, 0)] ((tP 8 0 (0 + (a : Int).toNat * 1)) :: (tI 7 a) :: (K58m4 a b)) bc) => ?_
 obtain ⟨x9, ex9, H⟩ := bnd H
 obtain ⟨_, _, ba⟩ := idx_some ex9
 refine D_oneP 2 (.one (.c (.int .i64 x9))) (fun _ _ _ _ _ h => h) rfl (by kernel_rfl) (by kernel_rfl) (by kernel_rfl) (rfl) rfl hm.plOk (fun w hw => run_loadAt1 ab hw rfl (by rfl) rfl (by kernel_rfl) (arr_get (fun (y : Int) => ([.int .i64 y] : List SC)) 1 (fun _ => rfl) [] [] q0.toL _ _ ba rfl rfl)) (ab.put (by decide) _) fun bd (ai : Kn 26 [(b_q0, 0), (b_q1, 0)] ((tI 9 x9) :: (tP 8 0 (0 + (a : Int).toNat * 1)) :: (tI 7 a) :: (K58m4 a b)) bd) => ?_
 refine Dr [3] (dn 3) ((tI 10 b) :: (tI 9 x9) :: (K58m4 a b)) ai hm fun bp ac => ?_
 obtain ⟨x11, ex11, H⟩ := bnd H
 obtain ⟨aw, az⟩ := rng_some ex11
 refine D_one 4 (.one (.c (.ptr 0 (0 + (b : Int).toNat * 1)))) (fun _ _ _ _ _ h => h) rfl (by kernel_rfl) (by kernel_rfl) (rfl) rfl hm.plOk (fun _ h => h) (fun w => run_indexA (E := 3) ac rfl (by kernel_rfl) (by kernel_rfl) (by rfl) (by rfl) aw az) (ac.put (by decide) _) fun be (ad : Kn 26 [(b_q0, 0), (b_q1, 0)] ((tP 11 0 (0 + (b : Int).toNat * 1)) :: (tI 10 b) :: (tI 9 x9) :: (K58m4 a b)) be) => ?_
 obtain ⟨x12, ex12, H⟩ := bnd H
 obtain ⟨_, _, bb⟩ := idx_some ex12
 refine D_oneP 5 (.one (.c (.int .i64 x12))) (fun _ _ _ _ _ h => h) rfl (by kernel_rfl) (by kernel_rfl) (by kernel_rfl) (rfl) rfl hm.plOk (fun w hw => run_loadAt1 ad hw rfl (by rfl) rfl (by kernel_rfl) (arr_get (fun (y : Int) => ([.int .i64 y] : List SC)) 1 (fun _ => rfl) [] [] q0.toL _ _ bb rfl rfl)) (ad.put (by decide) _) fun bf (aj : Kn 26 [(b_q0, 0), (b_q1, 0)] ((tI 12 x12) :: (tP 11 0 (0 + (b : Int).toNat * 1)) :: (tI 10 b) :: (tI 9 x9) :: (K58m4 a b)) bf) => ?_
 refine Dr [6, 7, 8, 10, 11, 14, 15, 16] [16, 15, 14, 11, 10, 8, 7, 6, 5, 4, 3, 2, 1, 0] (K58m2 a b g d f x9 x12) aj hm fun bq ak => ?_
 obtain ⟨x16, ex16, H⟩ := bnd H
 refine Dl 9 fun K hK => ?_
 refine wp_callV (.func g d f) [.c (.int .i64 b)] _ ak hm rfl rfl (by decide) (by rfl) (by rfl) rfl (m _ _ (Heap.le_refl _) hm.has b _ ex16) fun bv bl bz af au s => ?_
 replace m := m.mono au
 obtain rfl := af
 refine ⟨.one (.c (.int .i64 x16)), rfl, fun bg (al : Kn 26 [(b_q0, 0), (b_q1, 0)] ((tI 16 x16) :: (K58m2 a b g d f x9 x12)) bg) => hK _ _ s.plOk ?_⟩
 obtain ⟨x19, ex19, H⟩ := bnd H
 refine Dl 12 fun K hK => ?_
 refine wp_callV (.func g d f) [.c (.int .i64 a)] _ al s rfl rfl (by decide) (by rfl) (by rfl) rfl (m _ _ (Heap.le_refl _) s.has a _ ex19) fun bw l b0 ag bn u => ?_
 obtain rfl := ag
 refine ⟨.one (.c (.int .i64 x19)), rfl, fun bh (am : Kn 26 [(b_q0, 0), (b_q1, 0)] ((tI 19 x19) :: (tI 16 x16) :: (K58m2 a b g d f x9 x12)) bh) => hK _ _ u.plOk ?_⟩
 refine Dr [13] [13, 12, 9, 16, 15, 14, 11, 10, 8, 7, 6, 5, 4, 3, 2, 1, 0] (K58m3 x16 x19 a b x9 x12) am u fun br an => ?_
 refine Dl 17 fun K hK => ?_
 refine wS 3 1 [.int .i64 (IntKind.i64.wrap (x9 - x12)), .int .i64 (IntKind.i64.wrap (x16 - x19)), .int .i64 (IntKind.i64.wrap (a - b))] an u fun k bi bk (ao : Kn 26 [(b_q0, 0), (b_q1, 0)] ((tS 24 k 3 3) :: (K58m3 x16 x19 a b x9 x12)) bi) x => ?_
 have q : Cells l ([IntKind.i64.wrap (x9 - x12), IntKind.i64.wrap (x16 - x19), IntKind.i64.wrap (a - b)] : List Int) ([.int .i64 (IntKind.i64.wrap (x9 - x12)), .int .i64 (IntKind.i64.wrap (x16 - x19)), .int .i64 (IntKind.i64.wrap (a - b))] : List Value) := ⟨_, _, rfl, (rep_int : rep l (IntKind.i64.wrap (x9 - x12) : Int) _), ⟨_, _, rfl, (rep_int : rep l (IntKind.i64.wrap (x16 - x19) : Int) _), ⟨_, _, rfl, (rep_int : rep l (IntKind.i64.wrap (a - b) : Int) _), rfl⟩⟩⟩
 refine hK _ _ x.plOk ?_
 obtain ⟨aa, av, a9, p⟩ := x.settle (i := 0) rfl
 replace q := q.mono av
 replace p : Mem ⟨w, h, noX⟩ aa [(b_q0, 0), (b_q1, 0)] [⟨(K58c1 q0), none⟩, ⟨[.func g d f], none⟩] [⟨k, 3, 3, 3, 1, ([.int .i64 (IntKind.i64.wrap (x9 - x12)), .int .i64 (IntKind.i64.wrap (x16 - x19)), .int .i64 (IntKind.i64.wrap (a - b))] : List Value), (([.int .i64 (IntKind.i64.wrap (x9 - x12)), .int .i64 (IntKind.i64.wrap (x16 - x19)), .int .i64 (IntKind.i64.wrap (a - b))] : List Value) : List Value).length⟩] bk := p
 have a8 : RepS aa k 3 ([IntKind.i64.wrap (x9 - x12), IntKind.i64.wrap (x16 - x19), IntKind.i64.wrap (a - b)] : List Int) := ⟨_, q, a9, x.rowCap (i := 0) rfl⟩
 obtain ⟨x25, ex25, H⟩ := bnd H
 refine Dl 18 fun K hK => ?_
 refine wc [.c (.slice k 3 3)] ao p (cmp_Or_int_ok n p.has ([IntKind.i64.wrap (x9 - x12), IntKind.i64.wrap (x16 - x19), IntKind.i64.wrap (a - b)] : List Int) a8 ex25) fun bx bm b1 ah bo z => ?_
 obtain rfl := ah
 refine ⟨.one (.c (.int .i64 x25)), rfl, fun bj (aq : Kn 26 [(b_q0, 0), (b_q1, 0)] ((tI 25 x25) :: (tS 24 k 3 3) :: (K58m3 x16 x19 a b x9 x12)) bj) => hK _ _ z.plOk ?_⟩
 refine Dr [19] [19, 18, 17, 13, 12, 9, 16, 15, 14, 11, 10, 8, 7, 6, 5, 4, 3, 2, 1, 0] [(tI 6 x25)] aq z fun bt ar => ?_
 refine wpD_end (by kernel_rfl) (wp_ret ?_)
 obtain rfl := Option.some.inj H
 exact rt (.one (.c (.int .i64 x25))) ar z rfl
abbrev K24e1 (b f d q : Nat) : Env := [(b, 0), (f, 0), (d, 0), (q, 0)]
abbrev K24c2 (j : Option Addr) (y : Yard) (l : Nat) (k : Option Addr) (m : Nat) : List SC := [.slice j y.room.length l, .slice k y.buses.length m, .int .i64 y.broken]
abbrev K24c3 (d b : Nat) : List SC := [.func (.func 56) #[] #[.pointer (some ⟨d, 0, none⟩), .pointer (some ⟨b, 0, none⟩)]]
abbrev K24c4 (x25 : Places × Some × Int) : List SC := [.bool x25.2.1.a0, .bool x25.2.1.a1, .bool x25.2.1.a2, .bool x25.2.1.a3, .bool x25.2.1.a4, .bool x25.2.1.a5, .bool x25.2.1.a6, .bool x25.2.1.a7]
abbrev K24c5 (x25 : Places × Some × Int) : List SC := [.int .i64 x25.1.a0, .int .i64 x25.1.a1, .int .i64 x25.1.a2, .int .i64 x25.1.a3, .int .i64 x25.1.a4, .int .i64 x25.1.a5, .int .i64 x25.1.a6, .int .i64 x25.1.a7]
abbrev K24m6 (x_v12 : Int) (y : Yard) (x25 : Places × Some × Int) (x : Option Addr) (x_v11 : List Int) (z : Nat) : TM := [(tI 11 x_v12), (tI 32 x_v12), (tI 31 ((y.buses.length : Nat) : Int)), (tI 6 x25.2.2), (tP 10 2 0), (tP 9 1 0), (tS 5 x x_v11.length z), (tP 2 0 0)]
abbrev K24m7 (a_lanes : Option Addr) (lanes : List Int) (c_lanes : Nat) : TM := [(tS 5 none 0 0), (tS 4 none 0 0), (tP 2 0 0), (tS 1 a_lanes lanes.length c_lanes)]
set_option maxRecDepth 100000 in
set_option maxHeartbeats 4000000 in
theorem lane_Worst_ok (n : Nat) {h : Heap} {w : World} (hh : Has h w) (y : Yard) {cs_y : List Value} (hx_y : rep h y cs_y) (lanes : List Int) {a_lanes : Option Addr} {c_lanes : Nat} (hr_lanes : RepS h a_lanes c_lanes lanes) {r : (List Int) × (List Int) × Int × Int} (H : lane_Worst n y lanes = some r) :
  Calls Try.prog 24 #[.agg cs_y.toArray, .slice a_lanes lanes.length c_lanes] w (Ret (fun h v => ∃ v0 v1 v2 v3, v = .tuple #[v0, v1, v2, v3] ∧ (∃ a c, v0 = .slice a r.1.length c ∧ RepS h a c r.1) ∧ (∃ a c, v1 = .slice a r.2.1.length c ∧ RepS h a c r.2.1) ∧ (v2 = .int .i64 r.2.2.1) ∧ (v3 = .int .i64 r.2.2.2)) h w) := by
 obtain ⟨_, _, rfl, ⟨j, l, rfl, ad⟩, ⟨_, _, rfl, ⟨k, m, rfl, ae⟩, rfl⟩⟩ := hx_y
 refine enter 54 [.agg (K24c2 j y l k m), .c (.slice a_lanes lanes.length c_lanes)] Try.func24 rfl rfl rfl rfl fun t hk => ?_
 have hm := Mem.begin h w hh
 unfold lane_Worst at H
 refine wp_seq (wp_region_from (wl fun K hK => ?_))
 refine wb (.agg (K24c2 j y l k m)) hk hm fun b ft g5 (dq : Kn 54 [(b, 0)] [(tP 2 0 0), (tA 0 (K24c2 j y l k m)), (tS 1 a_lanes lanes.length c_lanes)] ft) bd => hK _ _ ?_
 refine Rk 1 4 (K24m7 a_lanes lanes c_lanes) dq bd fun f3 dv => ?_
 refine wf (wp_seq (wp_seq (wp_region_from (Rk 0 1 ((tA 13 (K24c2 j y l k m)) :: (K24m7 a_lanes lanes c_lanes)) dv bd fun f6 dz => ?_))))
 obtain ⟨x14, ex14, H⟩ := bnd H
 refine wl fun K hK => ?_
 refine wc [.agg (K24c2 j y l k m)] dz bd (lane_Yard_check_ok n bd.has y ((rep_pair (rep_slice ad) (rep_pair (rep_slice ae) rep_int)) : rep h y _) ex14) fun go dh gy dd b0 ak => ?_
 replace ad := ad.mono b0
 replace ae := ae.mono b0
 replace hr_lanes := hr_lanes.mono b0
 obtain rfl := dd
 refine ⟨.one (.c (.int .i64 x14)), rfl, fun fo (ed : Kn 54 [(b, 0)] ((tI 14 x14) :: (tA 13 (K24c2 j y l k m)) :: (K24m7 a_lanes lanes c_lanes)) fo) => hK _ _ ?_⟩
 refine Rk 2 1 ((tI 8 x14) :: (K24m7 a_lanes lanes c_lanes)) ed ak fun gc ei => ?_
 refine wf (wp_seq (wp_region_from (Rk 0 2 ((tB 16 (x14 != 0)) :: (tI 8 x14) :: (K24m7 a_lanes lanes c_lanes)) ei ak fun gf bw => ?_)))
 refine wf (wC ((x14 != 0)) bw (fun bm => ?_) (fun bm => ?_))
 ·
  rw [bm, cond_true] at H
  refine wp_seq (wp_region_from (Rk 0 5 [(tI 7 x14), (tI 6 0), (tS 5 none 0 0), (tS 4 none 0 0)] bw ak fun gg ej => ?_))
  refine wf (wp_ret ?_)
  obtain rfl := Option.some.inj H
  exact rt (.tup [.c (.slice none 0 0), .c (.slice none 0 0), .c (.int .i64 0), .c (.int .i64 x14)]) ej ak ⟨_, _, _, _, rfl, ⟨_, _, rfl, RepS.nil⟩, ⟨_, _, rfl, RepS.nil⟩, rfl, rfl⟩
 ·
  rw [bm, cond_false] at H
  refine wp_skip (wp_seq (wp_seq (wp_region_from (Rk 0 2 ((tS 19 a_lanes lanes.length c_lanes) :: (tA 18 (K24c2 j y l k m)) :: (K24m7 a_lanes lanes c_lanes)) bw ak fun gh ek => ?_))))
  obtain ⟨x20, ex20, H⟩ := bnd H
  refine wl fun K hK => ?_
  refine wc [.agg (K24c2 j y l k m), .c (.slice a_lanes lanes.length c_lanes)] ek ak (lane_Yard_lanes_ok n ak.has y ((rep_pair (rep_slice ad) (rep_pair (rep_slice ae) rep_int)) : rep dh y _) lanes hr_lanes ex20) fun gq di g0 de b1 ar => ?_
  replace ad := ad.mono b1
  replace ae := ae.mono b1
  replace hr_lanes := hr_lanes.mono b1
  obtain rfl := de
  refine ⟨.one (.c (.bool x20)), rfl, fun fp (el : Kn 54 [(b, 0)] ((tB 20 x20) :: (tS 19 a_lanes lanes.length c_lanes) :: (tA 18 (K24c2 j y l k m)) :: (K24m7 a_lanes lanes c_lanes)) fp) => hK _ _ ?_⟩
  refine Rk 3 1 ((tB 21 (!x20)) :: (K24m7 a_lanes lanes c_lanes)) el ar fun gi bx => ?_
  refine wf (wC ((!x20)) bx (fun bn => ?_) (fun bn => ?_))
  ·
   rw [bn, cond_true] at H
   refine wp_seq (wp_region_from (Rk 0 4 [(tI 7 2), (tI 6 0), (tS 5 none 0 0), (tS 4 none 0 0)] bx ar fun gj em => ?_))
   refine wf (wp_ret ?_)
   obtain rfl := Option.some.inj H
   exact rt (.tup [.c (.slice none 0 0), .c (.slice none 0 0), .c (.int .i64 0), .c (.int .i64 2)]) em ar ⟨_, _, _, _, rfl, ⟨_, _, rfl, RepS.nil⟩, ⟨_, _, rfl, RepS.nil⟩, rfl, rfl⟩
  ·
   rw [bn, cond_false] at H
   refine wp_skip (wp_seq (wp_region_from (Rk 0 2 [(tS 24 a_lanes lanes.length c_lanes), (tA 23 (K24c2 j y l k m)), (tS 5 none 0 0), (tS 4 none 0 0), (tP 2 0 0)] bx ar fun gk en => ?_)))
   obtain ⟨x25, ex25, H⟩ := bnd H
   refine wl fun K hK => ?_
   refine wc [.agg (K24c2 j y l k m), .c (.slice a_lanes lanes.length c_lanes)] en ar (lane_Yard_hardest_ok n ar.has y ((rep_pair (rep_slice ad) (rep_pair (rep_slice ae) rep_int)) : rep di y _) lanes hr_lanes ex25) fun gr aq g1 df c0 c4 => ?_
   replace ad := ad.mono c0
   replace ae := ae.mono c0
   obtain ⟨_, _, _, rfl, ⟨_, rfl, ⟨_, _, rfl, rfl, ⟨_, _, rfl, rfl, ⟨_, _, rfl, rfl, ⟨_, _, rfl, rfl, ⟨_, _, rfl, rfl, ⟨_, _, rfl, rfl, ⟨_, _, rfl, rfl, rfl⟩⟩⟩⟩⟩⟩⟩⟩, ⟨_, rfl, ⟨_, _, rfl, rfl, ⟨_, _, rfl, rfl, ⟨_, _, rfl, rfl, ⟨_, _, rfl, rfl, ⟨_, _, rfl, rfl, ⟨_, _, rfl, rfl, ⟨_, _, rfl, rfl, rfl⟩⟩⟩⟩⟩⟩⟩⟩, rfl⟩ := df
   refine ⟨.tup [.agg (K24c5 x25), .agg (K24c4 x25), .c (.int .i64 x25.2.2)], rfl, fun fq (eo : Kn 54 [(b, 0)] [(25, .tup [.agg (K24c5 x25), .agg (K24c4 x25), .c (.int .i64 x25.2.2)]), (tS 24 a_lanes lanes.length c_lanes), (tA 23 (K24c2 j y l k m)), (tS 5 none 0 0), (tS 4 none 0 0), (tP 2 0 0)] fq) => hK _ _ ?_⟩
   refine Rk 3 4 [(tI 28 x25.2.2), (tA 27 (K24c4 x25)), (tA 26 (K24c5 x25)), (tS 5 none 0 0), (tS 4 none 0 0), (tP 2 0 0)] eo c4 fun gl ep => ?_
   refine wl fun K hK => ?_
   refine wa [.int .i64 0, .int .i64 0, .int .i64 0, .int .i64 0, .int .i64 0, .int .i64 0, .int .i64 0, .int .i64 0] ep c4 fun f fr g2 (er : Kn 54 [(b, 0), (f, 0)] [(tP 9 1 0), (tI 28 x25.2.2), (tA 27 (K24c4 x25)), (tA 26 (K24c5 x25)), (tS 5 none 0 0), (tS 4 none 0 0), (tP 2 0 0)] fr) e3 => hK _ _ ?_
   refine wl fun K hK => ?_
   refine wa [.bool false, .bool false, .bool false, .bool false, .bool false, .bool false, .bool false, .bool false] er e3 fun d fs g3 (es : Kn 54 [(b, 0), (f, 0), (d, 0)] [(tP 10 2 0), (tP 9 1 0), (tI 28 x25.2.2), (tA 27 (K24c4 x25)), (tA 26 (K24c5 x25)), (tS 5 none 0 0), (tS 4 none 0 0), (tP 2 0 0)] fs) e4 => hK _ _ ?_
   refine wl fun K hK => ?_
   refine wst 1 0 (.agg (K24c5 x25)) (K24c5 x25) es e4 fun g4 et e5 => hK _ _ ?_
   refine wl fun K hK => ?_
   refine wst 2 0 (.agg (K24c4 x25)) (K24c4 x25) et e5 fun da eu ca => hK _ _ ?_
   refine Rk 11 1 [(tI 6 x25.2.2), (tP 10 2 0), (tP 9 1 0), (tS 5 none 0 0), (tS 4 none 0 0), (tP 2 0 0)] eu ca fun gm ev => ?_
   refine wf (wp_seq (wp_seq (wp_region_from (Rk 0 4 [(tI 32 0), (tI 31 ((y.buses.length : Nat) : Int)), (tI 6 x25.2.2), (tP 10 2 0), (tP 9 1 0), (tS 5 none 0 0), (tS 4 none 0 0), (tP 2 0 0)] ev ca fun gn ew => ?_))))
   refine wf ?_
   have e6 : Mem ⟨w, h, noX⟩ aq [(b, 0), (f, 0), (d, 0)] [⟨(K24c2 j y l k m), some 33⟩, ⟨(K24c5 x25), some 94⟩, ⟨(K24c4 x25), some 74⟩] [⟨none, 0, 0, 3, 1, [], 0⟩] da := ca.nilRow 3 1
   have dl : Cells aq ([] : List Int) [] := Cells.nil
   have e7 : Mem ⟨w, h, noX⟩ aq [(b, 0), (f, 0), (d, 0)] [⟨(K24c2 j y l k m), some 33⟩, ⟨(K24c5 x25), some 94⟩, ⟨(K24c4 x25), some 74⟩] [⟨none, 0, 0, 3, 1, [], 0⟩, ⟨none, 0, 0, 3, 1, [], 0⟩] da := e6.nilRow 3 1
   have dm : Cells aq ([] : List Int) [] := Cells.nil
   obtain ⟨g, cj, H⟩ := bnd H
   refine wp_mid' (fun a' w' => ∃ (o : Option Addr) (p : Nat) (ao : List Value) (s : Option Addr) (u : Nat) (af : List Value) (ce : Array Value) (au : Heap), a' = ⟨ce, []⟩ ∧ Kn 54 [(b, 0), (f, 0), (d, 0)] [(tI 6 x25.2.2), (tP 10 2 0), (tP 9 1 0), (tS 5 s g.2.length u), (tS 4 o g.1.length p), (tP 2 0 0)] ce ∧ Mem ⟨w, h, noX⟩ au [(b, 0), (f, 0), (d, 0)] [⟨(K24c2 j y l k m), some 33⟩, ⟨(K24c5 x25), some 94⟩, ⟨(K24c4 x25), some 74⟩] [⟨o, g.1.length, p, 3, 1, ao, 0⟩, ⟨s, g.2.length, u, 3, 1, af, 0⟩] w' ∧ Heap.le aq au ∧ Cells au g.1 ao ∧ Cells au g.2 af) ?_ ?_
   ·
    refine wp_block ?_
    refine wp_loop_n (fun fg a' w' => ∃ (x_v10 : List Int) (x_v11 : List Int) (x_v12 : Int) (ah : Option Addr) (ai : Nat) (am : List Value) (x : Option Addr) (z : Nat) (an : List Value) (cf : Array Value) (ag : Heap), a' = ⟨cf, []⟩ ∧ Kn 54 [(b, 0), (f, 0), (d, 0)] [(tI 32 x_v12), (tI 31 ((y.buses.length : Nat) : Int)), (tI 6 x25.2.2), (tP 10 2 0), (tP 9 1 0), (tS 5 x x_v11.length z), (tS 4 ah x_v10.length ai), (tP 2 0 0)] cf ∧ Mem ⟨w, h, noX⟩ ag [(b, 0), (f, 0), (d, 0)] [⟨(K24c2 j y l k m), some 33⟩, ⟨(K24c5 x25), some 94⟩, ⟨(K24c4 x25), some 74⟩] [⟨ah, x_v10.length, ai, 3, 1, am, 0⟩, ⟨x, x_v11.length, z, 3, 1, an, 0⟩] w' ∧ Heap.le aq ag ∧ Cells ag x_v10 am ∧ Cells ag x_v11 an ∧ lane_Worst_l1 fg y x25 x_v10 x_v11 x_v12 = some g) n ?_ ?_
    ·
     exact Exists.intro ([] : List Int) ⟨([] : List Int), 0, none, 0, ([]), none, 0, ([]), _, _, rfl, ew.kp, e7, (Heap.le_refl _), dl, dm, cj⟩
    ·
     rintro bf _ gs ⟨x_v10, x_v11, x_v12, ah, ai, am, x, z, an, cf, ag, rfl, dr, ax, bz, co, br, aa⟩
     clear cj
     obtain _ | bf := bf
     ·
      rw [lane_Worst_l1] at aa; cases aa
     rw [lane_Worst_l1] at aa
     refine wp_seq (wp_region_from (Rk 0 1 [(tB 33 (decide (x_v12 < ((y.buses.length : Nat) : Int)))), (tI 32 x_v12), (tI 31 ((y.buses.length : Nat) : Int)), (tI 6 x25.2.2), (tP 10 2 0), (tP 9 1 0), (tS 5 x x_v11.length z), (tS 4 ah x_v10.length ai), (tP 2 0 0)] dr ax fun f0 bu => ?_))
     refine wf (wp_seq (wC (decide (x_v12 < ((y.buses.length : Nat) : Int))) bu (fun bh => ?_) (fun bh => ?_)))
     ·
      rw [bh, cond_true] at aa
      refine wp_skip (wp_seq (wp_block (wp_seq (wp_region_from (Rk 0 2 [(tI 11 x_v12), (tI 32 x_v12), (tI 31 ((y.buses.length : Nat) : Int)), (tI 6 x25.2.2), (tP 10 2 0), (tP 9 1 0), (tS 5 x x_v11.length z), (tS 4 ah x_v10.length ai), (tP 2 0 0)] bu ax fun f1 ds => ?_)))))
      refine wf (wp_seq (wp_region_from (Rk 0 2 ((tI 36 x_v12) :: (tS 35 ah x_v10.length ai) :: (K24m6 x_v12 y x25 x x_v11 z)) ds ax fun f2 dt => ?_)))
      refine wl fun K hK => ?_
      refine wS 3 1 [.int .i64 x_v12] dt ax fun ch fh gu (du : Kn 54 [(b, 0), (f, 0), (d, 0)] ((tS 37 ch 1 1) :: (tI 36 x_v12) :: (tS 35 ah x_v10.length ai) :: (K24m6 x_v12 y x25 x x_v11 z)) fh) c1 => ?_
      have bo : Cells ag ([x_v12] : List Int) ([.int .i64 x_v12] : List Value) := ⟨_, _, rfl, (rep_int : rep ag (x_v12 : Int) _), rfl⟩
      refine hK _ _ ?_
      obtain ⟨x38, ex38, aa⟩ := bnd aa
      obtain ⟨cc, ex⟩ := app_some ex38
      refine wl fun K hK => ?_
      refine wp_append 0 8 1 _ (x38.length) _ ([.int .i64 x_v12] : List Value) du c1 rfl rfl (by decide) rfl (by rfl) (by kernel_rfl) (by rfl) (by rfl) (Cells.len bo) (c1.rowCell (i := 2) rfl) bo.one (by rw [cc]; simp <;> omega) (by rw [cc]; exact ex) (by decide) fun ab ac db fi gv dn (dw : Kn 54 [(b, 0), (f, 0), (d, 0)] ((tS 38 ab x38.length ac) :: (tS 37 ch 1 1) :: (tI 36 x_v12) :: (tS 35 ah x_v10.length ai) :: (K24m6 x_v12 y x25 x x_v11 z)) fi) aj => ?_
      have cn : Cells ag x38 (am ++ ([.int .i64 x_v12] : List Value)) := by rw [cc]; exact Cells.append co bo
      obtain rfl : db = 0 := Nat.le_zero.1 dn
      refine hK _ _ ?_
      refine Rk 4 1 ((tS 4 ab x38.length ac) :: (K24m6 x_v12 y x25 x x_v11 z)) dw aj fun f4 dx => ?_
      refine wf (wp_seq (wp_region_from (Rk 0 1 ((tI 39 x_v12) :: (tS 4 ab x38.length ac) :: (K24m6 x_v12 y x25 x x_v11 z)) dx aj fun f5 cu => ?_)))
      obtain ⟨x40, ex40, aa⟩ := bnd aa
      obtain ⟨e9, fa⟩ := rng_some ex40
      refine R_one 1 (.one (.c (.ptr 2 (0 + (x_v12 : Int).toNat * 1)))) rfl (rfl) rfl (run_indexA (E := 4) cu rfl (by kernel_rfl) (by kernel_rfl) (by rfl) (by rfl) e9 fa) (cu.put (by decide) _) fun fj (cv : Kn 54 [(b, 0), (f, 0), (d, 0)] ((tP 40 2 (0 + (x_v12 : Int).toNat * 1)) :: (tI 39 x_v12) :: (tS 4 ab x38.length ac) :: (K24m6 x_v12 y x25 x x_v11 z)) fj) => ?_
      obtain ⟨x41, ex41, aa⟩ := bnd aa
      obtain ⟨_, _, ff⟩ := idx_some ex41
      refine R_one 2 (.one (.c (.bool x41))) rfl (rfl) rfl (run_loadAt1 cv aj.plOk rfl (by rfl) rfl (by kernel_rfl) (arr_get (fun (y : Bool) => ([.bool y] : List SC)) 1 (fun _ => rfl) [] [] x25.2.1.toL _ _ ff rfl rfl)) (cv.put (by decide) _) fun c6 (dy : Kn 54 [(b, 0), (f, 0), (d, 0)] ((tB 41 x41) :: (tP 40 2 (0 + (x_v12 : Int).toNat * 1)) :: (tI 39 x_v12) :: (tS 4 ab x38.length ac) :: (K24m6 x_v12 y x25 x x_v11 z)) c6) => ?_
      have bv : Kn 54 [(b, 0), (f, 0), (d, 0)] ((tB 41 x41) :: (tS 4 ab x38.length ac) :: (K24m6 x_v12 y x25 x x_v11 z)) c6 := dy.kp
      refine wf (wC (x41) bv (fun bi => ?_) (fun bi => ?_))
      ·
       rw [cond_t bi] at aa
       refine wp_region_from (Rk 0 2 [(tI 43 x_v12), (tS 42 x x_v11.length z), (tS 4 ab x38.length ac), (tI 32 x_v12), (tI 31 ((y.buses.length : Nat) : Int)), (tI 6 x25.2.2), (tP 10 2 0), (tP 9 1 0), (tP 2 0 0)] bv aj fun f7 d0 => ?_)
       refine wl fun K hK => ?_
       refine wS 3 1 [.int .i64 x_v12] d0 aj fun ci fk gw (d1 : Kn 54 [(b, 0), (f, 0), (d, 0)] [(tS 44 ci 1 1), (tI 43 x_v12), (tS 42 x x_v11.length z), (tS 4 ab x38.length ac), (tI 32 x_v12), (tI 31 ((y.buses.length : Nat) : Int)), (tI 6 x25.2.2), (tP 10 2 0), (tP 9 1 0), (tP 2 0 0)] fk) c2 => ?_
       have bp : Cells ag ([x_v12] : List Int) ([.int .i64 x_v12] : List Value) := ⟨_, _, rfl, (rep_int : rep ag (x_v12 : Int) _), rfl⟩
       refine hK _ _ ?_
       obtain ⟨x45, ex45, aa⟩ := bnd aa
       obtain ⟨cd, ey⟩ := app_some ex45
       refine wl fun K hK => ?_
       refine wp_append 1 8 1 _ (x45.length) _ ([.int .i64 x_v12] : List Value) d1 c2 rfl rfl (by decide) rfl (by rfl) (by kernel_rfl) (by rfl) (by rfl) (Cells.len bp) (c2.rowCell (i := 3) rfl) bp.one (by rw [cd]; simp <;> omega) (by rw [cd]; exact ey) (by decide) fun ay az dc fl gx dp (d2 : Kn 54 [(b, 0), (f, 0), (d, 0)] [(tS 45 ay x45.length az), (tS 44 ci 1 1), (tI 43 x_v12), (tS 42 x x_v11.length z), (tS 4 ab x38.length ac), (tI 32 x_v12), (tI 31 ((y.buses.length : Nat) : Int)), (tI 6 x25.2.2), (tP 10 2 0), (tP 9 1 0), (tP 2 0 0)] fl) b2 => ?_
       have dk : Cells ag x45 (an ++ ([.int .i64 x_v12] : List Value)) := by rw [cd]; exact Cells.append br bp
       obtain rfl : dc = 0 := Nat.le_zero.1 dp
       refine hK _ _ ?_
       refine Rk 4 1 [(tS 5 ay x45.length az), (tS 4 ab x38.length ac), (tI 32 x_v12), (tI 31 ((y.buses.length : Nat) : Int)), (tI 6 x25.2.2), (tP 10 2 0), (tP 9 1 0), (tP 2 0 0)] d2 b2 fun f8 d3 => ?_
       refine wf (wp_region_from (Rk 0 2 [(tI 32 (IntKind.i64.wrap (x_v12 + 1))), (tS 5 ay x45.length az), (tS 4 ab x38.length ac), (tI 31 ((y.buses.length : Nat) : Int)), (tI 6 x25.2.2), (tP 10 2 0), (tP 9 1 0), (tP 2 0 0)] d3 b2 fun f9 d4 => ?_))
       refine wf ?_
       exact Exists.intro bf ⟨Nat.lt_succ_self _, Exists.intro x38 ⟨x45, (IntKind.i64.wrap (x_v12 + 1)), ab, ac, (am ++ ([.int .i64 x_v12] : List Value)), ay, az, (an ++ ([.int .i64 x_v12] : List Value)), _, _, rfl, d4.kp, (b2.cutRw 2), bz, cn, dk, aa⟩⟩
      ·
       rw [cond_f bi] at aa
       refine wp_skip (wp_region_from (Rk 0 2 [(tI 32 (IntKind.i64.wrap (x_v12 + 1))), (tS 4 ab x38.length ac), (tI 31 ((y.buses.length : Nat) : Int)), (tI 6 x25.2.2), (tP 10 2 0), (tP 9 1 0), (tS 5 x x_v11.length z), (tP 2 0 0)] bv aj fun ga d5 => ?_))
       refine wf ?_
       exact Exists.intro bf ⟨Nat.lt_succ_self _, Exists.intro x38 ⟨x_v11, (IntKind.i64.wrap (x_v12 + 1)), ab, ac, (am ++ ([.int .i64 x_v12] : List Value)), x, z, an, _, _, rfl, d5.kp, (aj.cutRw 2), bz, cn, br, aa⟩⟩
     ·
      rw [bh, cond_false] at aa
      refine wp_exit ?_
      obtain rfl := Option.some.inj aa
      exact Exists.intro ah ⟨ai, am, x, z, an, _, _, rfl, bu.kp, ax, bz, co, br⟩
   ·
    rintro _ c8 ⟨o, p, ao, s, u, af, ce, au, rfl, d6, e0, cw, bs, bt⟩
    refine wp_seq (wp_region_from ?_)
    obtain ⟨a8, bb, cp, b3⟩ := e0.settlePlc (i := 2) rfl
    replace b3 : Mem ⟨w, h, noX⟩ a8 [(b, 0), (f, 0), (d, 0)] [⟨(K24c2 j y l k m), some 33⟩, ⟨(K24c5 x25), some 94⟩, ⟨(K24c4 x25), none⟩] [⟨o, g.1.length, p, 3, 1, ao, 0⟩, ⟨s, g.2.length, u, 3, 1, af, 0⟩] c8 := b3
    have bj : BoxS a8 d (x25.2.1 : Some) := BoxS.of (e := [(b, 0), (f, 0), (d, 0)]) (cs := (K24c4 x25)) ((rep_pair rep_bool (rep_pair rep_bool (rep_pair rep_bool (rep_pair rep_bool (rep_pair rep_bool (rep_pair rep_bool (rep_pair rep_bool rep_bool))))))) : rep a8 (x25.2.1 : Some) _) rfl cp
    have fw : CellsAt a8 d [.bool x25.2.1.a0, .bool x25.2.1.a1, .bool x25.2.1.a2, .bool x25.2.1.a3, .bool x25.2.1.a4, .bool x25.2.1.a5, .bool x25.2.1.a6, .bool x25.2.1.a7] := CellsAt.of (e := [(b, 0), (f, 0), (d, 0)]) (cs := [.bool x25.2.1.a0, .bool x25.2.1.a1, .bool x25.2.1.a2, .bool x25.2.1.a3, .bool x25.2.1.a4, .bool x25.2.1.a5, .bool x25.2.1.a6, .bool x25.2.1.a7]) rfl cp
    obtain ⟨a9, av, cq, b4⟩ := b3.settlePlc (i := 0) rfl
    replace ad := ad.mono (Heap.le_trans (Heap.le_trans cw bb) av)
    replace ae := ae.mono (Heap.le_trans (Heap.le_trans cw bb) av)
    replace b4 : Mem ⟨w, h, noX⟩ a9 [(b, 0), (f, 0), (d, 0)] [⟨(K24c2 j y l k m), none⟩, ⟨(K24c5 x25), some 94⟩, ⟨(K24c4 x25), none⟩] [⟨o, g.1.length, p, 3, 1, ao, 0⟩, ⟨s, g.2.length, u, 3, 1, af, 0⟩] c8 := b4
    have bk : BoxS a9 b (y : Yard) := BoxS.of (e := [(b, 0), (f, 0), (d, 0)]) (cs := (K24c2 j y l k m)) ((rep_pair (rep_slice ad) (rep_pair (rep_slice ae) rep_int)) : rep a9 (y : Yard) _) rfl cq
    have fx : CellsAt a9 b [.slice j y.room.length l, .slice k y.buses.length m, .int .i64 y.broken] := CellsAt.of (e := [(b, 0), (f, 0), (d, 0)]) (cs := [.slice j y.room.length l, .slice k y.buses.length m, .int .i64 y.broken]) rfl cq
    refine R_func 0 #[] #[.pointer (some ⟨d, 0, none⟩), .pointer (some ⟨b, 0, none⟩)] d6 rfl rfl (rfl) rfl (by decide) (by rfl) (by rfl) (by rfl) (by rfl) fun fm (d7 : Kn 54 [(b, 0), (f, 0), (d, 0)] [(47, .one (.c (.func (.func 56) #[] #[.pointer (some ⟨d, 0, none⟩), .pointer (some ⟨b, 0, none⟩)]))), (tI 6 x25.2.2), (tP 10 2 0), (tP 9 1 0), (tS 5 s g.2.length u), (tS 4 o g.1.length p), (tP 2 0 0)] fm) => ?_
    refine wl fun K hK => ?_
    refine wa [.nilfunc] d7 b4 fun q c7 gz (d8 : Kn 54 (K24e1 b f d q) [(tP 12 3 0), (47, .one (.c (.func (.func 56) #[] #[.pointer (some ⟨d, 0, none⟩), .pointer (some ⟨b, 0, none⟩)]))), (tI 6 x25.2.2), (tP 10 2 0), (tP 9 1 0), (tS 5 s g.2.length u), (tS 4 o g.1.length p), (tP 2 0 0)] c7) e1 => hK _ _ ?_
    refine wl fun K hK => ?_
    refine wst 3 0 (.c (.func (.func 56) #[] #[.pointer (some ⟨d, 0, none⟩), .pointer (some ⟨b, 0, none⟩)])) (K24c3 d b) d8 e1 fun c9 d9 c3 => hK _ _ ?_
    have ea : Kn 54 (K24e1 b f d q) [(tP 12 3 0), (tI 6 x25.2.2), (tP 9 1 0), (tS 5 s g.2.length u), (tS 4 o g.1.length p)] c7 := d9.kp
    refine wf (wp_seq (wp_region_from (Rk 0 1 [(tS 48 o g.1.length p), (tP 12 3 0), (tI 6 x25.2.2), (tP 9 1 0), (tS 5 s g.2.length u), (tS 4 o g.1.length p)] ea c3 fun gb eb => ?_)))
    obtain ⟨ba, bc, cr, b5⟩ := c3.settlePlc (i := 1) rfl
    replace b5 : Mem ⟨w, h, noX⟩ ba (K24e1 b f d q) [⟨(K24c2 j y l k m), none⟩, ⟨(K24c5 x25), none⟩, ⟨(K24c4 x25), none⟩, ⟨(K24c3 d b), some 103⟩] [⟨o, g.1.length, p, 3, 1, ao, 0⟩, ⟨s, g.2.length, u, 3, 1, af, 0⟩] c9 := b5
    have bl : BoxS ba f (x25.1 : Places) := BoxS.of (e := (K24e1 b f d q)) (cs := (K24c5 x25)) ((rep_pair rep_int (rep_pair rep_int (rep_pair rep_int (rep_pair rep_int (rep_pair rep_int (rep_pair rep_int (rep_pair rep_int rep_int))))))) : rep ba (x25.1 : Places) _) rfl cr
    have fy : CellsAt ba f [.int .i64 x25.1.a0, .int .i64 x25.1.a1, .int .i64 x25.1.a2, .int .i64 x25.1.a3, .int .i64 x25.1.a4, .int .i64 x25.1.a5, .int .i64 x25.1.a6, .int .i64 x25.1.a7] := CellsAt.of (e := [(b, 0), (f, 0), (d, 0), (q, 0)]) (cs := [.int .i64 x25.1.a0, .int .i64 x25.1.a1, .int .i64 x25.1.a2, .int .i64 x25.1.a3, .int .i64 x25.1.a4, .int .i64 x25.1.a5, .int .i64 x25.1.a6, .int .i64 x25.1.a7]) rfl cr
    obtain ⟨ap, aw, ct, b6⟩ := b5.settlePlc (i := 3) rfl
    replace bj := bj.mono (Heap.le_trans (Heap.le_trans av bc) aw)
    replace bk := bk.mono (Heap.le_trans bc aw)
    replace bl := bl.mono aw
    replace bs := bs.mono (Heap.le_trans (Heap.le_trans (Heap.le_trans bb av) bc) aw)
    replace b6 : Mem ⟨w, h, noX⟩ ap (K24e1 b f d q) [⟨(K24c2 j y l k m), none⟩, ⟨(K24c5 x25), none⟩, ⟨(K24c4 x25), none⟩, ⟨(K24c3 d b), none⟩] [⟨o, g.1.length, p, 3, 1, ao, 0⟩, ⟨s, g.2.length, u, 3, 1, af, 0⟩] c9 := b6
    have dj : BoxS ap q ((fun (y0 : Int) => lane_Worst_1 n y0 x25.2.1 y) : Int → Option Int) := BoxS.of (e := (K24e1 b f d q)) (cs := (K24c3 d b)) (⟨_, _, _, rfl, (show Fn6 ap (.func (.func 56) #[] #[.pointer (some ⟨d, 0, none⟩), .pointer (some ⟨b, 0, none⟩)]) (fun (y0 : Int) => lane_Worst_1 n y0 x25.2.1 y) from fun h2 w2 hle hh y0 r H => ⟨56, _, _, rfl, fun _ _ => by kernel_rfl, lane_Worst_1_ok n hh y0 x25.2.1 (bj.mono hle) y (bk.mono hle) H⟩)⟩ : rep ap ((fun (y0 : Int) => lane_Worst_1 n y0 x25.2.1 y) : Int → Option Int) _) rfl ct
    have fz : CellsAt ap q [.func (.func 56) #[] #[.pointer (some ⟨d, 0, none⟩), .pointer (some ⟨b, 0, none⟩)]] := CellsAt.of (e := [(b, 0), (f, 0), (d, 0), (q, 0)]) (cs := [.func (.func 56) #[] #[.pointer (some ⟨d, 0, none⟩), .pointer (some ⟨b, 0, none⟩)]]) rfl ct
    refine R_func 1 #[] #[.pointer (some ⟨f, 0, none⟩), .pointer (some ⟨q, 0, none⟩)] eb rfl rfl (rfl) rfl (by decide) (by rfl) (by rfl) (by rfl) (by rfl) fun fn (ec : Kn 54 (K24e1 b f d q) [(49, .one (.c (.func (.func 58) #[] #[.pointer (some ⟨f, 0, none⟩), .pointer (some ⟨q, 0, none⟩)]))), (tS 48 o g.1.length p), (tP 12 3 0), (tI 6 x25.2.2), (tP 9 1 0), (tS 5 s g.2.length u), (tS 4 o g.1.length p)] fn) => ?_
    obtain ⟨x50, ex50, H⟩ := bnd H
    obtain ⟨fu, fv, ez, fc⟩ := b6.lend0 [] [0] (by kernel_rfl) (by kernel_rfl) (by kernel_rfl) (by kernel_rfl)
    refine wl fun K hK => ?_
    refine wp_callM [.c (.slice o g.1.length p), .c (.func (.func 58) #[] #[.pointer (some ⟨f, 0, none⟩), .pointer (some ⟨q, 0, none⟩)])] _ ec rfl rfl (by decide) (by rfl) rfl (fun _ _ => by kernel_rfl) (slices_SortFunc_int_int_ok n g.1 bs (fun (y0 : Int) (y1 : Int) => lane_Worst_2 n y0 y1 x25.1 (fun (y0 : Int) => lane_Worst_1 n y0 x25.2.1 y)) (show Fn3 ap (.func (.func 58) #[] #[.pointer (some ⟨f, 0, none⟩), .pointer (some ⟨q, 0, none⟩)]) (fun (y0 : Int) (y1 : Int) => lane_Worst_2 n y0 y1 x25.1 (fun (y0 : Int) => lane_Worst_1 n y0 x25.2.1 y)) from fun h2 w2 hle hh y0 y1 r H => ⟨58, _, _, rfl, fun _ _ => by kernel_rfl, lane_Worst_2_ok n hh y0 y1 x25.1 (bl.mono hle) (fun (y0 : Int) => lane_Worst_1 n y0 x25.2.1 y) (dj.mono hle) H⟩) ez ex50) fun gp bg dg => ?_
    obtain ⟨ck, al, cx, rfl, e8, bq, e2⟩ := dg
    have b7 := fc _ _ _ [⟨o, g.1.length, p, 3, 1, al, 0⟩] cx rfl (Nat.le_of_ble_eq_true rfl) (by kernel_rfl) e2
    replace b7 : Mem ⟨w, h, noX⟩ ck (K24e1 b f d q) [⟨(K24c2 j y l k m), none⟩, ⟨(K24c5 x25), none⟩, ⟨(K24c4 x25), none⟩, ⟨(K24c3 d b), none⟩] [⟨o, g.1.length, p, 3, 1, al, 0⟩, ⟨s, g.2.length, u, 3, 1, af, 0⟩] bg := b7
    refine ⟨.tup [], rfl, fun cg (ee : Kn 54 (K24e1 b f d q) [(50, .tup []), (49, .one (.c (.func (.func 58) #[] #[.pointer (some ⟨f, 0, none⟩), .pointer (some ⟨q, 0, none⟩)]))), (tS 48 o g.1.length p), (tP 12 3 0), (tI 6 x25.2.2), (tP 9 1 0), (tS 5 s g.2.length u), (tS 4 o g.1.length p)] cg) => hK _ _ ?_⟩
    have c5 := e8.symm
    have ef : Kn 54 [(b, 0), (f, 0), (d, 0), (q, 0)] [(50, .tup []), (49, .one (.c (.func (.func 58) #[] #[.pointer (some ⟨f, 0, none⟩), .pointer (some ⟨q, 0, none⟩)]))), (48, .one (.c (.slice o x50.length p))), (12, .one (.c (.ptr 3 0))), (6, .one (.c (.int .i64 x25.2.2))), (9, .one (.c (.ptr 1 0))), (5, .one (.c (.slice s g.2.length u))), (4, .one (.c (.slice o x50.length p)))] cg := by rw [← c5]; exact ee
    have b8 : Mem ⟨w, h, noX⟩ ck [(b, 0), (f, 0), (d, 0), (q, 0)] [⟨[.slice j y.room.length l, .slice k y.buses.length m, .int .i64 y.broken], none⟩, ⟨[.int .i64 x25.1.a0, .int .i64 x25.1.a1, .int .i64 x25.1.a2, .int .i64 x25.1.a3, .int .i64 x25.1.a4, .int .i64 x25.1.a5, .int .i64 x25.1.a6, .int .i64 x25.1.a7], none⟩, ⟨[.bool x25.2.1.a0, .bool x25.2.1.a1, .bool x25.2.1.a2, .bool x25.2.1.a3, .bool x25.2.1.a4, .bool x25.2.1.a5, .bool x25.2.1.a6, .bool x25.2.1.a7], none⟩, ⟨[.func (.func 56) #[] #[.pointer (some ⟨d, 0, none⟩), .pointer (some ⟨b, 0, none⟩)]], none⟩] [⟨o, x50.length, p, 3, 1, al, 0⟩, ⟨s, g.2.length, u, 3, 1, af, 0⟩] bg := by rw [← c5]; exact b7
    have eg : Kn 54 (K24e1 b f d q) [(tI 6 x25.2.2), (tS 5 s g.2.length u), (tS 4 o x50.length p)] cg := ef.kp
    refine wf (wp_seq (wp_region_from (Rk 0 7 [(tI 7 0), (tI 6 x25.2.2), (tS 5 s g.2.length u), (tS 4 o x50.length p)] eg b8 fun gd eh => ?_)))
    refine wf (wp_ret ?_)
    obtain ⟨cl, cy, fd, be⟩ := b8.settle (i := 0) rfl
    replace bq := bq.mono cy
    replace be : Mem ⟨w, h, noX⟩ cl (K24e1 b f d q) [⟨(K24c2 j y l k m), none⟩, ⟨(K24c5 x25), none⟩, ⟨(K24c4 x25), none⟩, ⟨(K24c3 d b), none⟩] [⟨o, x50.length, p, 3, 1, al, (al : List Value).length⟩, ⟨s, g.2.length, u, 3, 1, af, 0⟩] bg := be
    have cb : RepS cl o p x50 := ⟨_, bq, fd, b8.rowCap (i := 0) rfl⟩
    obtain ⟨cm, cz, fe, b9⟩ := be.settle (i := 1) rfl
    replace cb := cb.mono cz
    replace bt := bt.mono (Heap.le_trans (Heap.le_trans (Heap.le_trans (Heap.le_trans (Heap.le_trans (Heap.le_trans bb av) bc) aw) cx) cy) cz)
    replace b9 : Mem ⟨w, h, noX⟩ cm (K24e1 b f d q) [⟨(K24c2 j y l k m), none⟩, ⟨(K24c5 x25), none⟩, ⟨(K24c4 x25), none⟩, ⟨(K24c3 d b), none⟩] [⟨o, x50.length, p, 3, 1, al, (al : List Value).length⟩, ⟨s, g.2.length, u, 3, 1, af, (af : List Value).length⟩] bg := b9
    have fb : RepS cm s u g.2 := ⟨_, bt, fe, be.rowCap (i := 1) rfl⟩
    obtain rfl := Option.some.inj H
    exact rt (.tup [.c (.slice o x50.length p), .c (.slice s g.2.length u), .c (.int .i64 x25.2.2), .c (.int .i64 0)]) eh b9 ⟨_, _, _, _, rfl, ⟨_, _, rfl, cb⟩, ⟨_, _, rfl, fb⟩, rfl, rfl⟩
end Go.Proofs.Ythcbemnflgjadaa
