/- Each call computes its plain function. -/
import Derived.Test.YtkbphdjemgibnaaProg
import Derived.Test.YtkbphdjemgibnaaBsP0
import Derived.Test.YtkbphdjemgibnaaBsWA
import Derived.Test.YtkbphdjemgibnaaBsWB
import Derived.Test.YtkbphdjemgibnaaBsWC
import Derived.Test.YtkbphdjemgibnaaBsWU
import Derived.Test.YtkbphdjemgibnaaBsWV
import Derived.Test.YtkbphdjemgibnaaBsWW
set_option linter.all false
namespace Go.Proofs.Ytkbphdjemgibnaa
open Go Go.RowKit
open Rep (rep)
open KRep (kv)
open VRep (rv)
abbrev K12c1 (e : Option Addr) (s : Shop) (g : Nat) (f : Option Addr) (i : Nat) : List SC := [.slice e s.buses.length g, .int .i64 s.days, .slice f s.pits.length i]
abbrev K12c2 (q : Option Addr) (x31 : Shop) (x : Nat) (u : Option Addr) (y : Nat) : List SC := [.slice q x31.buses.length x, .int .i64 x31.days, .slice u x31.pits.length y]
abbrev K12m3 (x26 : (List Int) × Int × Int) (b : Option Addr) (d : Nat) (a_plan : Option Addr) (plan : List Int) (c_plan : Nat) (most : Int) : TM := [(tI 9 x26.2.2), (tI 8 x26.2.1), (tS 7 b x26.1.length d), (tP 3 0 0), (tS 1 a_plan plan.length c_plan), (tI 2 most)]
abbrev K12m4 (a_plan : Option Addr) (plan : List Int) (c_plan : Nat) (most : Int) : TM := [(tP 3 0 0), (tS 1 a_plan plan.length c_plan), (tI 2 most)]
abbrev K12m5 (x26 : (List Int) × Int × Int) (b : Option Addr) (d : Nat) : TM := [(tI 8 x26.2.1), (tS 7 b x26.1.length d), (tP 3 0 0)]
set_option maxRecDepth 100000 in
set_option maxHeartbeats 4000000 in
theorem law_PitBests_ok (n : Nat) {h : Heap} {w : World} (hh : Has h w) (s : Shop) {cs_s : List Value} (hx_s : rep h s cs_s) (plan : List Int) {a_plan : Option Addr} {c_plan : Nat} (hr_plan : RepS h a_plan c_plan plan) (most : Int) {r : Bool} (H : law_PitBests n s plan most = some r) :
  Calls Try.prog 12 #[.agg cs_s.toArray, .slice a_plan plan.length c_plan, .int .i64 most] w (Ret (fun h v => v = .bool r) h w) := by
 obtain ⟨_, _, rfl, ⟨e, g, rfl, j⟩, ⟨_, _, rfl, rfl, ⟨f, i, rfl, k⟩⟩⟩ := hx_s
 refine enter 93 [.agg (K12c1 e s g f i), .c (.slice a_plan plan.length c_plan), .c (.int .i64 most)] Try.func12 rfl rfl rfl rfl fun t hk => ?_
 have hm := Mem.begin h w hh
 unfold law_PitBests at H
 refine wp_seq (wp_region_from (wl fun K hK => ?_))
 refine wb (.agg (K12c1 e s g f i)) hk hm fun a fq fs (df : Kn 93 [(a, 0)] [(tP 3 0 0), (tA 0 (K12c1 e s g f i)), (tS 1 a_plan plan.length c_plan), (tI 2 most)] fq) (a7 : Mem ⟨w, h, noX⟩ h [(a, 0)] [⟨(K12c1 e s g f i), some 74⟩] [] fs) => hK _ _ ?_
 refine Rk 1 1 (K12m4 a_plan plan c_plan most) df a7 fun f6 dl => ?_
 refine wf (wp_seq (wp_seq ?_))
 obtain ⟨bt, ac, H⟩ := bnd H
 refine wp_mid' (fun a' w' => ∃ (bv : Array Value) (a2 : Heap), a' = ⟨bv, []⟩ ∧ Kn 93 [(a, 0)] [(tP 3 0 0), (tS 1 a_plan plan.length c_plan), (tI 2 most), (tB 21 bt)] bv ∧ Mem ⟨w, h, noX⟩ a2 [(a, 0)] [⟨(K12c1 e s g f i), some 74⟩] [] w' ∧ Heap.le h a2) ?_ ?_
 ·
  refine wp_region_from (Rk 0 1 ((tA 14 (K12c1 e s g f i)) :: (K12m4 a_plan plan c_plan most)) dl a7 fun gd d3 => ?_)
  obtain ⟨x15, ex15, ac⟩ := bnd ac
  refine wl fun K hK => ?_
  refine wc [.agg (K12c1 e s g f i)] d3 a7 (law_Few_ok n a7.has s ((rep_pair (rep_slice j) (rep_pair rep_int (rep_slice k))) : rep h s _) ex15) fun g6 fu hr c0 cc av => ?_
  obtain rfl := c0
  refine ⟨.one (.c (.bool x15)), rfl, fun fk (ei : Kn 93 [(a, 0)] ((tB 15 x15) :: (tA 14 (K12c1 e s g f i)) :: (K12m4 a_plan plan c_plan most)) fk) => hK _ _ ?_⟩
  refine Rk 2 2 ((tB 17 (!x15)) :: (K12m4 a_plan plan c_plan most)) ei av fun ct cb => ?_
  rcases Bool.eq_false_or_eq_true ((!x15)) with ar | ar
  ·
   rw [ar, cond_true] at ac
   have et : Kn 93 [(a, 0)] ((tB 17 true) :: (K12m4 a_plan plan c_plan most)) ct := (cb.setB 17 true (by rfl) ar).kp
   refine Rk 4 4 ((tB 21 true) :: (K12m4 a_plan plan c_plan most)) et av fun gv eu => ?_
   refine wf ?_
   obtain rfl := Option.some.inj ac
   exact Exists.intro _ ⟨_, rfl, eu.kp, av, cc⟩
  ·
   rw [ar, cond_false] at ac
   have ev : Kn 93 [(a, 0)] ((tB 17 false) :: (K12m4 a_plan plan c_plan most)) ct := (cb.setB 17 false (by rfl) ar).kp
   refine Rk 4 4 ((tB 21 (decide (((plan.length : Nat) : Int) > 12))) :: (K12m4 a_plan plan c_plan most)) ev av fun gw ew => ?_
   refine wf ?_
   obtain rfl := Option.some.inj ac
   exact Exists.intro _ ⟨_, rfl, ew.kp, av, cc⟩
 ·
  rintro _ hx ⟨bv, a2, rfl, bi, ax, bm⟩
  replace j := j.mono bm
  replace k := k.mono bm
  replace hr_plan := hr_plan.mono bm
  refine wC (bt) bi (fun bf => ?_) (fun bf => ?_)
  ·
   rw [bf, cond_true] at H
   refine wp_seq (wp_region_from ?_)
   obtain ⟨x22, ex22, H⟩ := bnd H
   refine wl fun K hK => ?_
   refine wc [] bi ax (law_wakes_ok n ax.has  ex22) fun hc fz hy c5 f3 ch => ?_
   obtain rfl := c5
   refine ⟨.one (.c (.bool x22)), rfl, fun fn (ex : Kn 93 [(a, 0)] [(tB 22 x22), (tP 3 0 0), (tS 1 a_plan plan.length c_plan), (tI 2 most), (tB 21 bt)] fn) => hK _ _ ?_⟩
   refine Rk 1 1 [(tB 6 x22)] ex ch fun gx ey => ?_
   refine wf (wp_ret ?_)
   obtain rfl := Option.some.inj H
   exact rt (.one (.c (.bool x22))) ey ch rfl
  ·
   rw [bf, cond_false] at H
   refine wp_skip (wp_seq (wp_region_from (Rk 0 1 ((tA 24 (K12c1 e s g f i)) :: (K12m4 a_plan plan c_plan most)) bi ax fun gy ez => ?_)))
   obtain ⟨x25, ex25, H⟩ := bnd H
   refine wl fun K hK => ?_
   refine wc [.agg (K12c1 e s g f i)] ez ax (law_Shop_ok n ax.has s ((rep_pair (rep_slice j) (rep_pair rep_int (rep_slice k))) : rep a2 s _) ex25) fun hd dc hz c6 bn ci => ?_
   obtain ⟨_, rfl, ⟨_, _, rfl, ⟨ay, a0, rfl, fa⟩, ⟨_, _, rfl, rfl, ⟨az, a1, rfl, fb⟩⟩⟩⟩ := c6
   refine ⟨.one (.agg [.slice ay x25.buses.length a0, .int .i64 x25.days, .slice az x25.pits.length a1]), rfl, fun fo (e0 : Kn 93 [(a, 0)] ((tA 25 [.slice ay x25.buses.length a0, .int .i64 x25.days, .slice az x25.pits.length a1]) :: (tA 24 (K12c1 e s g f i)) :: (K12m4 a_plan plan c_plan most)) fo) => hK _ _ ?_⟩
   obtain ⟨x26, ex26, H⟩ := bnd H
   refine wl fun K hK => ?_
   refine wc [.agg [.slice ay x25.buses.length a0, .int .i64 x25.days, .slice az x25.pits.length a1]] e0 ci (pit_Best_ok n ci.has x25 ((rep_pair (rep_slice fa) (rep_pair rep_int (rep_slice fb))) : rep dc x25 _) ex26) fun he dd h0 c7 bo a9 => ?_
   replace j := j.mono (Heap.le_trans bn bo)
   replace k := k.mono (Heap.le_trans bn bo)
   obtain ⟨_, _, _, rfl, ⟨b, d, rfl, z⟩, rfl, rfl⟩ := c7
   refine ⟨.tup [.c (.slice b x26.1.length d), .c (.int .i64 x26.2.1), .c (.int .i64 x26.2.2)], rfl, fun fp (e1 : Kn 93 [(a, 0)] ((26, .tup [.c (.slice b x26.1.length d), .c (.int .i64 x26.2.1), .c (.int .i64 x26.2.2)]) :: (tA 25 [.slice ay x25.buses.length a0, .int .i64 x25.days, .slice az x25.pits.length a1]) :: (tA 24 (K12c1 e s g f i)) :: (K12m4 a_plan plan c_plan most)) fp) => hK _ _ ?_⟩
   refine Rk 3 7 (K12m3 x26 b d a_plan plan c_plan most) e1 a9 fun gz e2 => ?_
   refine wf (wp_seq (wp_region_from (Rk 0 1 ((tA 30 (K12c1 e s g f i)) :: (K12m3 x26 b d a_plan plan c_plan most)) e2 a9 fun g0 e3 => ?_)))
   obtain ⟨x31, ex31, H⟩ := bnd H
   refine wl fun K hK => ?_
   refine wc [.agg (K12c1 e s g f i)] e3 a9 (law_Shop_ok n a9.has s ((rep_pair (rep_slice j) (rep_pair rep_int (rep_slice k))) : rep dd s _) ex31) fun hf f0 h1 c8 a6 bq => ?_
   replace hr_plan := hr_plan.mono (Heap.le_trans (Heap.le_trans bn bo) a6)
   obtain ⟨_, rfl, ⟨_, _, rfl, ⟨q, x, rfl, br⟩, ⟨_, _, rfl, rfl, ⟨u, y, rfl, bs⟩⟩⟩⟩ := c8
   refine ⟨.one (.agg (K12c2 q x31 x u y)), rfl, fun fr (e4 : Kn 93 [(a, 0)] ((tA 31 (K12c2 q x31 x u y)) :: (tA 30 (K12c1 e s g f i)) :: (K12m3 x26 b d a_plan plan c_plan most)) fr) => hK _ _ ?_⟩
   refine Rk 2 1 ((tS 32 a_plan plan.length c_plan) :: (tA 31 (K12c2 q x31 x u y)) :: (K12m3 x26 b d a_plan plan c_plan most)) e4 bq fun g1 e5 => ?_
   obtain ⟨x33, ex33, H⟩ := bnd H
   refine wl fun K hK => ?_
   refine wc [.c (.slice a_plan plan.length c_plan)] e5 bq (law_list_ok n bq.has plan hr_plan ex33) fun hg de hi cu ad bp => ?_
   replace br := br.mono ad
   replace bs := bs.mono ad
   obtain ⟨ah, ai, rfl, e9⟩ := cu
   refine ⟨.one (.c (.slice ah x33.length ai)), rfl, fun fc (dg : Kn 93 [(a, 0)] ((tS 33 ah x33.length ai) :: (tS 32 a_plan plan.length c_plan) :: (tA 31 (K12c2 q x31 x u y)) :: (K12m3 x26 b d a_plan plan c_plan most)) fc) => hK _ _ ?_⟩
   refine Rk 4 1 ((tI 34 most) :: (tS 33 ah x33.length ai) :: (tA 31 (K12c2 q x31 x u y)) :: (K12m3 x26 b d a_plan plan c_plan most)) dg bp fun f4 dh => ?_
   obtain ⟨x35, ex35, H⟩ := bnd H
   refine wl fun K hK => ?_
   refine wc [.agg (K12c2 q x31 x u y), .c (.slice ah x33.length ai), .c (.int .i64 most)] dh bp (pit_ProvePlan_ok n bp.has x31 ((rep_pair (rep_slice br) (rep_pair rep_int (rep_slice bs))) : rep de x31 _) x33 e9 most ex35) fun g2 c9 hj cv a4 a8 => ?_
   replace j := j.mono (Heap.le_trans (Heap.le_trans a6 ad) a4)
   replace k := k.mono (Heap.le_trans (Heap.le_trans a6 ad) a4)
   obtain rfl := cv
   refine ⟨.one (.c (.bool x35)), rfl, fun fd (di : Kn 93 [(a, 0)] ((tB 35 x35) :: (tI 34 most) :: (tS 33 ah x33.length ai) :: (tA 31 (K12c2 q x31 x u y)) :: (K12m3 x26 b d a_plan plan c_plan most)) fd) => hK _ _ ?_⟩
   refine Rk 6 1 ((tB 10 x35) :: (K12m3 x26 b d a_plan plan c_plan most)) di a8 fun f5 dj => ?_
   refine wf (wp_seq (wp_seq (wp_region_from (Rk 0 1 ((tA 36 (K12c1 e s g f i)) :: (tB 10 x35) :: (K12m3 x26 b d a_plan plan c_plan most)) dj a8 fun f7 dk => ?_))))
   obtain ⟨x37, ex37, H⟩ := bnd H
   refine wl fun K hK => ?_
   refine wc [.agg (K12c1 e s g f i)] dk a8 (ref_ShopFault_ok n a8.has s ((rep_pair (rep_slice j) (rep_pair rep_int (rep_slice k))) : rep c9 s _) ex37) fun g3 bb hl cw a5 l => ?_
   replace j := j.mono a5
   replace k := k.mono a5
   replace hr_plan := hr_plan.mono (Heap.le_trans (Heap.le_trans ad a4) a5)
   replace z := z.mono (Heap.le_trans (Heap.le_trans (Heap.le_trans a6 ad) a4) a5)
   obtain rfl := cw
   refine ⟨.one (.c (.int .i64 x37)), rfl, fun fe (dm : Kn 93 [(a, 0)] ((tI 37 x37) :: (tA 36 (K12c1 e s g f i)) :: (tB 10 x35) :: (K12m3 x26 b d a_plan plan c_plan most)) fe) => hK _ _ ?_⟩
   refine Rk 2 1 ((tI 11 x37) :: (tB 10 x35) :: (K12m3 x26 b d a_plan plan c_plan most)) dm l fun f8 dn => ?_
   refine wf (wp_seq (wp_region_from (Rk 0 2 ((tB 39 (x37 != 0)) :: (tI 11 x37) :: (tB 10 x35) :: (K12m3 x26 b d a_plan plan c_plan most)) dn l fun f9 bg => ?_)))
   refine wf (wC ((x37 != 0)) bg (fun bd => ?_) (fun bd => ?_))
   ·
    rw [bd, cond_true] at H
    refine wp_seq ?_
    obtain ⟨cj, p, H⟩ := bnd H
    refine wp_mid' (fun a' w' => ∃ (bu : Array Value) (bc : Heap), a' = ⟨bu, []⟩ ∧ Kn 93 [(a, 0)] [(tB 6 cj)] bu ∧ Mem ⟨w, h, noX⟩ bc [(a, 0)] [⟨(K12c1 e s g f i), some 74⟩] [] w' ∧ Heap.le bb bc) ?_ ?_
    ·
     refine wp_region_from (Rk 0 4 [(tB 43 (x26.2.2 == x37)), (tB 10 x35), (tI 8 x26.2.1), (tS 7 b x26.1.length d)] bg l fun cl bx => ?_)
     rcases Bool.eq_false_or_eq_true ((x26.2.2 == x37)) with aj | aj
     ·
      rw [aj, cond_true] at p
      have dp : Kn 93 [(a, 0)] [(tB 43 true), (tB 10 x35), (tI 8 x26.2.1), (tS 7 b x26.1.length d)] cl := (bx.setB 43 true (by rfl) aj).kp
      refine Rk 4 5 [(tB 48 (((x26.1.length : Nat) : Int) == 0)), (tB 10 x35), (tI 8 x26.2.1)] dp l fun cm bz => ?_
      rcases Bool.eq_false_or_eq_true ((((x26.1.length : Nat) : Int) == 0)) with ak | ak
      ·
       rw [ak, cond_true] at p
       have dq : Kn 93 [(a, 0)] [(tB 48 true), (tB 10 x35), (tI 8 x26.2.1)] cm := (bz.setB 48 true (by rfl) ak).kp
       refine Rk 9 4 [(tB 52 (x26.2.1 == 0)), (tB 10 x35)] dq l fun cn b0 => ?_
       rcases Bool.eq_false_or_eq_true ((x26.2.1 == 0)) with al | al
       ·
        rw [al, cond_true] at p
        have dr : Kn 93 [(a, 0)] [(tB 52 true), (tB 10 x35)] cn := (b0.setB 52 true (by rfl) al).kp
        refine Rk 13 4 [(tB 56 (!x35))] dr l fun co b1 => ?_
        rcases Bool.eq_false_or_eq_true ((!x35)) with am | am
        ·
         rw [am, cond_true] at p
         have b2 : Kn 93 [(a, 0)] [(tB 56 true)] co := (b1.setB 56 true (by rfl) am).kp
         obtain ⟨x57, ex57, p⟩ := bnd p
         refine wpFrom_loud _ rfl (wantedS_sound b2 (by kernel_rfl)) fun K hK => ?_
         refine wc [] b2 l (law_wakes_ok n l.has  ex57) fun g4 ft hn cx e6 ce => ?_
         obtain rfl := cx
         refine ⟨.one (.c (.bool x57)), rfl, fun ff (ds : Kn 93 [(a, 0)] [(tB 57 x57), (tB 56 true)] ff) => hK _ _ ?_⟩
         refine Rk 18 2 [(tB 6 x57)] ds ce fun ga dt => ?_
         refine wf ?_
         obtain rfl := Option.some.inj p
         exact Exists.intro _ ⟨_, rfl, dt.kp, ce, e6⟩
        ·
         rw [am, cond_false] at p
         have du : Kn 93 [(a, 0)] [(tB 56 false)] co := (b1.setB 56 false (by rfl) am).kp
         refine Rk 17 3 [(tB 6 false)] du l fun gb dv => ?_
         refine wf ?_
         obtain rfl := Option.some.inj p
         exact Exists.intro _ ⟨_, rfl, dv.kp, l, (Heap.le_refl _)⟩
       ·
        rw [al, cond_false] at p
        have dw : Kn 93 [(a, 0)] [(tB 52 false), (tB 10 x35)] cn := (b0.setB 52 false (by rfl) al).kp
        refine Rk 13 7 [(tB 6 false)] dw l fun gc dx => ?_
        refine wf ?_
        obtain rfl := Option.some.inj p
        exact Exists.intro _ ⟨_, rfl, dx.kp, l, (Heap.le_refl _)⟩
      ·
       rw [ak, cond_false] at p
       have dy : Kn 93 [(a, 0)] [(tB 48 false), (tB 10 x35), (tI 8 x26.2.1)] cm := (bz.setB 48 false (by rfl) ak).kp
       refine Rk 9 11 [(tB 6 false)] dy l fun gf dz => ?_
       refine wf ?_
       obtain rfl := Option.some.inj p
       exact Exists.intro _ ⟨_, rfl, dz.kp, l, (Heap.le_refl _)⟩
     ·
      rw [aj, cond_false] at p
      have d0 : Kn 93 [(a, 0)] [(tB 43 false), (tB 10 x35), (tI 8 x26.2.1), (tS 7 b x26.1.length d)] cl := (bx.setB 43 false (by rfl) aj).kp
      refine Rk 4 16 [(tB 6 false)] d0 l fun gg d1 => ?_
      refine wf ?_
      obtain rfl := Option.some.inj p
      exact Exists.intro _ ⟨_, rfl, d1.kp, l, (Heap.le_refl _)⟩
    ·
     rintro _ ho ⟨bu, bc, rfl, d2, e8, f1⟩
     refine wp_ret ?_
     obtain rfl := Option.some.inj H
     exact rt (.one (.c (.bool cj))) d2 e8 rfl
   ·
    rw [bd, cond_false] at H
    refine wp_skip (wp_seq (wp_seq ?_))
    obtain ⟨ck, aa, H⟩ := bnd H
    refine wp_mid' (fun a' w' => ∃ (bw : Array Value) (a3 : Heap), a' = ⟨bw, []⟩ ∧ Kn 93 [(a, 0)] [(tI 9 x26.2.2), (tI 8 x26.2.1), (tS 7 b x26.1.length d), (tP 3 0 0), (tB 70 ck)] bw ∧ Mem ⟨w, h, noX⟩ a3 [(a, 0)] [⟨(K12c1 e s g f i), some 74⟩] [] w' ∧ Heap.le bb a3) ?_ ?_
    ·
     refine wp_region_from (Rk 0 3 ((tS 61 a_plan plan.length c_plan) :: (tA 60 (K12c1 e s g f i)) :: (tB 59 x35) :: (K12m3 x26 b d a_plan plan c_plan most)) bg l fun gh d4 => ?_)
     obtain ⟨x62, ex62, aa⟩ := bnd aa
     refine wl fun K hK => ?_
     refine wc [.agg (K12c1 e s g f i), .c (.slice a_plan plan.length c_plan)] d4 l (ref_Fits_ok n l.has s ((rep_pair (rep_slice j) (rep_pair rep_int (rep_slice k))) : rep bb s _) plan hr_plan ex62) fun g5 da hp cy ae af => ?_
     replace j := j.mono ae
     replace k := k.mono ae
     replace hr_plan := hr_plan.mono ae
     replace z := z.mono ae
     obtain rfl := cy
     refine ⟨.one (.c (.bool x62)), rfl, fun fg (d5 : Kn 93 [(a, 0)] ((tB 62 x62) :: (tS 61 a_plan plan.length c_plan) :: (tA 60 (K12c1 e s g f i)) :: (tB 59 x35) :: (K12m3 x26 b d a_plan plan c_plan most)) fg) => hK _ _ ?_⟩
     refine Rk 4 1 ((tB 63 x62) :: (tB 59 x35) :: (K12m3 x26 b d a_plan plan c_plan most)) d5 af fun cp b3 => ?_
     rcases Bool.eq_false_or_eq_true (x62) with an | an
     ·
      rw [an, cond_true] at aa
      have d6 : Kn 93 [(a, 0)] ((tB 63 true) :: (tB 59 x35) :: (K12m3 x26 b d a_plan plan c_plan most)) cp := (b3.setB 63 true (by rfl) an).kp
      refine Rk 5 2 [(tS 65 a_plan plan.length c_plan), (tA 64 (K12c1 e s g f i)), (tB 63 true), (tB 59 x35), (tI 9 x26.2.2), (tI 8 x26.2.1), (tS 7 b x26.1.length d), (tP 3 0 0), (tI 2 most)] d6 af fun gi b4 => ?_
      obtain ⟨x66, ex66, aa⟩ := bnd aa
      refine wpFrom_loud _ rfl (wantedS_sound b4 (by kernel_rfl)) fun K hK => ?_
      refine wc [.agg (K12c1 e s g f i), .c (.slice a_plan plan.length c_plan)] b4 af (ref_Cost_ok n af.has s ((rep_pair (rep_slice j) (rep_pair rep_int (rep_slice k))) : rep da s _) plan hr_plan ex66) fun g7 fv hq cz e7 cf => ?_
      obtain rfl := cz
      refine ⟨.one (.c (.int .i64 x66)), rfl, fun fh (d7 : Kn 93 [(a, 0)] [(tI 66 x66), (tS 65 a_plan plan.length c_plan), (tA 64 (K12c1 e s g f i)), (tB 63 true), (tB 59 x35), (tI 9 x26.2.2), (tI 8 x26.2.1), (tS 7 b x26.1.length d), (tP 3 0 0), (tI 2 most)] fh) => hK _ _ ?_⟩
      refine Rk 8 4 ((tB 70 (!(x35 == (decide (x66 ≤ most))))) :: (tI 9 x26.2.2) :: (K12m5 x26 b d)) d7 cf fun gj d8 => ?_
      refine wf ?_
      obtain rfl := Option.some.inj aa
      exact Exists.intro _ ⟨_, rfl, d8.kp, cf, (Heap.le_trans ae e7)⟩
     ·
      rw [an, cond_false] at aa
      have d9 : Kn 93 [(a, 0)] ((tB 63 false) :: (tB 59 x35) :: (K12m3 x26 b d a_plan plan c_plan most)) cp := (b3.setB 63 false (by rfl) an).kp
      refine Rk 5 7 ((tB 70 (!(x35 == false))) :: (tI 9 x26.2.2) :: (K12m5 x26 b d)) d9 af fun gk ea => ?_
      refine wf ?_
      obtain rfl := Option.some.inj aa
      exact Exists.intro _ ⟨_, rfl, ea.kp, af, ae⟩
    ·
     rintro _ hs ⟨bw, a3, rfl, bh, au, bj⟩
     replace j := j.mono bj
     replace k := k.mono bj
     replace z := z.mono bj
     refine wC (ck) bh (fun be => ?_) (fun be => ?_)
     ·
      rw [be, cond_true] at H
      refine wp_seq (wp_region_from (Rk 0 1 [(tB 6 false)] bh au fun gl eb => ?_))
      refine wf (wp_ret ?_)
      obtain rfl := Option.some.inj H
      exact rt (.one (.c (.bool false))) eb au rfl
     ·
      rw [be, cond_false] at H
      refine wp_skip (wp_seq (wp_region_from (Rk 0 1 ((tA 72 (K12c1 e s g f i)) :: (tI 9 x26.2.2) :: (K12m5 x26 b d)) bh au fun gm ec => ?_)))
      obtain ⟨x73, ex73, H⟩ := bnd H
      refine wl fun K hK => ?_
      refine wc [.agg (K12c1 e s g f i), .c (.slice none 0 0)] ec au (ref_Best_ok n au.has s ((rep_pair (rep_slice j) (rep_pair rep_int (rep_slice k))) : rep a3 s _) ([] : List Int) RepS.nil ex73) fun g8 fw ht c1 bk ab => ?_
      replace j := j.mono bk
      replace k := k.mono bk
      replace z := z.mono bk
      obtain ⟨_, _, rfl, ⟨m, o, rfl, ba⟩, rfl⟩ := c1
      refine ⟨.tup [.c (.slice m x73.1.length o), .c (.bool x73.2)], rfl, fun fi (ed : Kn 93 [(a, 0)] ((73, .tup [.c (.slice m x73.1.length o), .c (.bool x73.2)]) :: (tA 72 (K12c1 e s g f i)) :: (tI 9 x26.2.2) :: (K12m5 x26 b d)) fi) => hK _ _ ?_⟩
      refine Rk 2 5 ((tS 12 m x73.1.length o) :: (tI 9 x26.2.2) :: (K12m5 x26 b d)) ed ab fun gn ee => ?_
      refine wf (wp_seq (wp_region_from (Rk 0 3 ((tB 78 (x26.2.2 == 0)) :: (tS 12 m x73.1.length o) :: (K12m5 x26 b d)) ee ab fun cq b5 => ?_)))
      rcases Bool.eq_false_or_eq_true ((x26.2.2 == 0)) with ao | ao
      ·
       rw [ao, cond_true] at H
       have ef : Kn 93 [(a, 0)] ((tB 78 true) :: (tS 12 m x73.1.length o) :: (K12m5 x26 b d)) cq := (b5.setB 78 true (by rfl) ao).kp
       refine Rk 3 2 [(tS 80 m x73.1.length o), (tS 79 b x26.1.length d), (tB 78 true), (tS 12 m x73.1.length o), (tI 8 x26.2.1), (tP 3 0 0)] ef ab fun go b6 => ?_
       obtain ⟨x81, ex81, H⟩ := bnd H
       refine wpFrom_loud _ rfl (wantedS_sound b6 (by kernel_rfl)) fun K hK => ?_
       refine wc [.c (.slice b x26.1.length d), .c (.slice m x73.1.length o)] b6 ab (law_ints_ok n ab.has x26.1 z x73.1 ba ex81) fun g9 db hu c2 bl ag => ?_
       replace j := j.mono bl
       replace k := k.mono bl
       replace ba := ba.mono bl
       obtain rfl := c2
       refine ⟨.one (.c (.bool x81)), rfl, fun fj (eg : Kn 93 [(a, 0)] [(tB 81 x81), (tS 80 m x73.1.length o), (tS 79 b x26.1.length d), (tB 78 true), (tS 12 m x73.1.length o), (tI 8 x26.2.1), (tP 3 0 0)] fj) => hK _ _ ?_⟩
       refine Rk 6 2 [(tB 83 x81), (tS 12 m x73.1.length o), (tI 8 x26.2.1), (tP 3 0 0)] eg ag fun cr b7 => ?_
       rcases Bool.eq_false_or_eq_true (x81) with ap | ap
       ·
        rw [ap, cond_true] at H
        have eh : Kn 93 [(a, 0)] [(tB 83 true), (tS 12 m x73.1.length o), (tI 8 x26.2.1), (tP 3 0 0)] cr := (b7.setB 83 true (by rfl) ap).kp
        refine Rk 8 3 [(tS 86 m x73.1.length o), (tA 85 (K12c1 e s g f i)), (tI 84 x26.2.1), (tB 83 true)] eh ag fun gp b8 => ?_
        obtain ⟨x87, ex87, H⟩ := bnd H
        refine wpFrom_loud _ rfl (wantedS_sound b8 (by kernel_rfl)) fun K hK => ?_
        refine wc [.agg (K12c1 e s g f i), .c (.slice m x73.1.length o)] b8 ag (ref_Cost_ok n ag.has s ((rep_pair (rep_slice j) (rep_pair rep_int (rep_slice k))) : rep db s _) x73.1 ba ex87) fun ha fx hv c3 cd aw => ?_
        replace j := j.mono cd
        replace k := k.mono cd
        obtain rfl := c3
        refine ⟨.one (.c (.int .i64 x87)), rfl, fun fl (ej : Kn 93 [(a, 0)] [(tI 87 x87), (tS 86 m x73.1.length o), (tA 85 (K12c1 e s g f i)), (tI 84 x26.2.1), (tB 83 true)] fl) => hK _ _ ?_⟩
        refine Rk 12 3 [(tB 90 (x26.2.1 == x87))] ej aw fun cs b9 => ?_
        rcases Bool.eq_false_or_eq_true ((x26.2.1 == x87)) with aq | aq
        ·
         rw [aq, cond_true] at H
         have ca : Kn 93 [(a, 0)] [(tB 90 true)] cs := (b9.setB 90 true (by rfl) aq).kp
         obtain ⟨x91, ex91, H⟩ := bnd H
         refine wpFrom_loud _ rfl (wantedS_sound ca (by kernel_rfl)) fun K hK => ?_
         refine wc [] ca aw (law_wakes_ok n aw.has  ex91) fun hb fy hw c4 f2 cg => ?_
         obtain rfl := c4
         refine ⟨.one (.c (.bool x91)), rfl, fun fm (ek : Kn 93 [(a, 0)] [(tB 91 x91), (tB 90 true)] fm) => hK _ _ ?_⟩
         refine Rk 16 2 [(tB 6 x91)] ek cg fun gq el => ?_
         refine wf (wp_ret ?_)
         obtain rfl := Option.some.inj H
         exact rt (.one (.c (.bool x91))) el cg rfl
        ·
         rw [aq, cond_false] at H
         have em : Kn 93 [(a, 0)] [(tB 90 false)] cs := (b9.setB 90 false (by rfl) aq).kp
         refine Rk 15 3 [(tB 6 false)] em aw fun gr en => ?_
         refine wf (wp_ret ?_)
         obtain rfl := Option.some.inj H
         exact rt (.one (.c (.bool false))) en aw rfl
       ·
        rw [ap, cond_false] at H
        have eo : Kn 93 [(a, 0)] [(tB 83 false), (tS 12 m x73.1.length o), (tI 8 x26.2.1), (tP 3 0 0)] cr := (b7.setB 83 false (by rfl) ap).kp
        refine Rk 8 10 [(tB 6 false)] eo ag fun gs ep => ?_
        refine wf (wp_ret ?_)
        obtain rfl := Option.some.inj H
        exact rt (.one (.c (.bool false))) ep ag rfl
      ·
       rw [ao, cond_false] at H
       have er : Kn 93 [(a, 0)] ((tB 78 false) :: (tS 12 m x73.1.length o) :: (K12m5 x26 b d)) cq := (b5.setB 78 false (by rfl) ao).kp
       refine Rk 3 15 [(tB 6 false)] er ab fun gu es => ?_
       refine wf (wp_ret ?_)
       obtain rfl := Option.some.inj H
       exact rt (.one (.c (.bool false))) es ab rfl
end Go.Proofs.Ytkbphdjemgibnaa
