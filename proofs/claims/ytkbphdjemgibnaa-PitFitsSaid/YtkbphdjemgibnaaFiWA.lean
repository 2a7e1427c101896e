/- Each call computes its plain function. -/
import Derived.Test.YtkbphdjemgibnaaProg
import Derived.Test.YtkbphdjemgibnaaFiP0
set_option linter.all false
namespace Go.Proofs.Ytkbphdjemgibnaa
open Go Go.RowKit
open Rep (rep)
open KRep (kv)
open VRep (rv)
set_option maxRecDepth 100000 in
set_option maxHeartbeats 4000000 in
theorem ref_In_ok (n : Nat) {h : Heap} {w : World} (hh : Has h w) (n_ : Int) (low : Int) (high : Int) {r : Bool} (H : ref_In n n_ low high = some r) :
  Calls Try.prog 26 #[.int .i64 n_, .int .i64 low, .int .i64 high] w (Ret (fun h v => v = .bool r) h w) := by
 refine enter 15 [.c (.int .i64 n_), .c (.int .i64 low), .c (.int .i64 high)] Try.func26 rfl rfl rfl rfl fun t hk => ?_
 have hm := Mem.begin h w hh
 unfold ref_In at H
 refine wp_seq (wp_region_from (Rk 0 1 [(tI 0 n_), (tI 1 low), (tI 2 high)] hk hm fun k f => ?_))
 refine wf (wp_seq (wp_region_from (Rk 0 4 [(tB 10 (decide (n_ ≥ low))), (tI 0 n_), (tI 2 high)] f hm fun d b => ?_)))
 rcases Bool.eq_false_or_eq_true (decide (n_ ≥ low)) with a | a
 ·
  rw [a, cond_true] at H
  have g : Kn 15 [] [(tB 10 true), (tI 0 n_), (tI 2 high)] d := (b.setB 10 true (by rfl) a).kp
  refine Rk 4 5 [(tB 6 (decide (n_ ≤ high)))] g hm fun m i => ?_
  refine wf (wp_ret ?_)
  obtain rfl := Option.some.inj H
  exact rt (.one (.c (.bool (decide (n_ ≤ high))))) i hm rfl
 ·
  rw [a, cond_false] at H
  have j : Kn 15 [] [(tB 10 false), (tI 0 n_), (tI 2 high)] d := (b.setB 10 false (by rfl) a).kp
  refine Rk 4 5 [(tB 6 false)] j hm fun l e => ?_
  refine wf (wp_ret ?_)
  obtain rfl := Option.some.inj H
  exact rt (.one (.c (.bool false))) e hm rfl
abbrev K80c1 (c : Card) : List SC := [.int .i64 c.bus, .int .i64 c.number, .int .i64 c.minute, .int .u8 c.kind.n, .int .i64 c.part, .int .i64 c.sg]
abbrev K80m2 : TM := [(tB 38 true), (tP 1 0 0)]
abbrev K80m3 : TM := (tB 47 false) :: K80m2
set_option maxRecDepth 100000 in
set_option maxHeartbeats 4000000 in
theorem ref_Right_ok (n : Nat) {h : Heap} {w : World} (hh : Has h w) (c : Card) {cs_c : List Value} (hx_c : rep h c cs_c) {r : Bool} (H : ref_Right n c = some r) :
  Calls Try.prog 80 #[.agg cs_c.toArray] w (Ret (fun h v => v = .bool r) h w) := by
 obtain ⟨_, _, rfl, rfl, ⟨_, _, rfl, rfl, ⟨_, _, rfl, rfl, ⟨_, _, rfl, rfl, ⟨_, _, rfl, rfl, rfl⟩⟩⟩⟩⟩ := hx_c
 refine enter 58 [.agg (K80c1 c)] Try.func80 rfl rfl rfl rfl fun t hk => ?_
 have hm := Mem.begin h w hh
 unfold ref_Right at H
 refine wp_seq (wp_region_from (wl fun K hK => ?_))
 refine wb (.agg (K80c1 c)) hk hm fun a cp ct (b4 : Kn 58 [(a, 0)] [(tP 1 0 0), (tA 0 (K80c1 c))] cp) (ab : Mem ⟨w, h, noX⟩ h [(a, 0)] [⟨(K80c1 c), some 24⟩] [] ct) => hK _ _ ?_
 refine Rk 1 1 [(tP 1 0 0)] b4 ab fun df cd => ?_
 refine wf (wp_seq (wp_seq ?_))
 obtain ⟨a1, d, H⟩ := bnd H
 refine wp_mid' (fun a' w' => ∃ (aj : Array Value) (z : Heap), a' = ⟨aj, []⟩ ∧ Kn 58 [(a, 0)] [(tP 1 0 0), (tB 23 a1)] aj ∧ Mem ⟨w, h, noX⟩ z [(a, 0)] [⟨(K80c1 c), some 24⟩] [] w' ∧ Heap.le h z) ?_ ?_
 ·
  refine wp_region_from (Rk 0 2 [(tI 4 c.bus), (tP 1 0 0)] cd ab fun c3 bj => ?_)
  obtain ⟨x5, ex5, d⟩ := bnd d
  refine wl fun K hK => ?_
  refine wc [.c (.int .i64 c.bus), .c (.int .i64 0), .c (.int .i64 99)] bj ab (ref_In_ok n ab.has c.bus 0 99 ex5) fun dn cv dt bc aa g => ?_
  obtain rfl := bc
  refine ⟨.one (.c (.bool x5)), rfl, fun co (bz : Kn 58 [(a, 0)] [(tB 5 x5), (tI 4 c.bus), (tP 1 0 0)] co) => hK _ _ ?_⟩
  refine Rk 3 2 [(tB 7 (!x5)), (tP 1 0 0)] bz g fun a7 aq => ?_
  rcases Bool.eq_false_or_eq_true ((!x5)) with p | p
  ·
   rw [p, cond_true] at d
   have b0 : Kn 58 [(a, 0)] [(tB 7 true), (tP 1 0 0)] a7 := (aq.setB 7 true (by rfl) p).kp
   refine Rk 5 16 [(tB 23 true), (tP 1 0 0)] b0 g fun da b1 => ?_
   refine wf ?_
   obtain rfl := Option.some.inj d
   exact Exists.intro _ ⟨_, rfl, b1.kp, g, aa⟩
  ·
   rw [p, cond_false] at d
   have b2 : Kn 58 [(a, 0)] [(tB 7 false), (tP 1 0 0)] a7 := (aq.setB 7 false (by rfl) p).kp
   refine Rk 5 2 [(tI 9 c.number), (tB 7 false), (tP 1 0 0)] b2 g fun db ar => ?_
   obtain ⟨x10, ex10, d⟩ := bnd d
   refine wpFrom_loud _ rfl (wantedS_sound ar (by kernel_rfl)) fun K hK => ?_
   refine wc [.c (.int .i64 c.number), .c (.int .i64 1), .c (.int .i64 999)] ar g (ref_In_ok n g.has c.number 1 999 ex10) fun dp cw du bd ah i => ?_
   obtain rfl := bd
   refine ⟨.one (.c (.bool x10)), rfl, fun cq (b3 : Kn 58 [(a, 0)] [(tB 10 x10), (tI 9 c.number), (tB 7 false), (tP 1 0 0)] cq) => hK _ _ ?_⟩
   refine Rk 8 3 [(tB 13 (!x10)), (tP 1 0 0)] b3 i fun a8 au => ?_
   rcases Bool.eq_false_or_eq_true ((!x10)) with q | q
   ·
    rw [q, cond_true] at d
    have b5 : Kn 58 [(a, 0)] [(tB 13 true), (tP 1 0 0)] a8 := (au.setB 13 true (by rfl) q).kp
    refine Rk 11 10 [(tB 23 true), (tP 1 0 0)] b5 i fun dc b6 => ?_
    refine wf ?_
    obtain rfl := Option.some.inj d
    exact Exists.intro _ ⟨_, rfl, b6.kp, i, (Heap.le_trans aa ah)⟩
   ·
    rw [q, cond_false] at d
    have b7 : Kn 58 [(a, 0)] [(tB 13 false), (tP 1 0 0)] a8 := (au.setB 13 false (by rfl) q).kp
    refine Rk 11 2 [(tI 15 c.minute), (tB 13 false), (tP 1 0 0)] b7 i fun dd av => ?_
    obtain ⟨x16, ex16, d⟩ := bnd d
    refine wpFrom_loud _ rfl (wantedS_sound av (by kernel_rfl)) fun K hK => ?_
    refine wc [.c (.int .i64 c.minute), .c (.int .i64 0), .c (.int .i64 1000000)] av i (ref_In_ok n i.has c.minute 0 1000000 ex16) fun dq cx dv be ay x => ?_
    obtain rfl := be
    refine ⟨.one (.c (.bool x16)), rfl, fun cr (b8 : Kn 58 [(a, 0)] [(tB 16 x16), (tI 15 c.minute), (tB 13 false), (tP 1 0 0)] cr) => hK _ _ ?_⟩
    refine Rk 14 3 [(tB 19 (!x16)), (tP 1 0 0)] b8 x fun a9 aw => ?_
    rcases Bool.eq_false_or_eq_true ((!x16)) with s | s
    ·
     rw [s, cond_true] at d
     have b9 : Kn 58 [(a, 0)] [(tB 19 true), (tP 1 0 0)] a9 := (aw.setB 19 true (by rfl) s).kp
     refine Rk 17 4 [(tB 23 true), (tP 1 0 0)] b9 x fun de ca => ?_
     refine wf ?_
     obtain rfl := Option.some.inj d
     exact Exists.intro _ ⟨_, rfl, ca.kp, x, (Heap.le_trans aa (Heap.le_trans ah ay))⟩
    ·
     rw [s, cond_false] at d
     have cb : Kn 58 [(a, 0)] [(tB 19 false), (tP 1 0 0)] a9 := (aw.setB 19 false (by rfl) s).kp
     refine Rk 17 4 [(tB 23 (decide (c.kind.n > 3))), (tP 1 0 0)] cb x fun dg cc => ?_
     refine wf ?_
     obtain rfl := Option.some.inj d
     exact Exists.intro _ ⟨_, rfl, cc.kp, x, (Heap.le_trans aa (Heap.le_trans ah ay))⟩
 ·
  rintro _ dw ⟨aj, z, rfl, af, b, c0⟩
  refine wC (a1) af (fun ad => ?_) (fun ad => ?_)
  ·
   rw [ad, cond_true] at H
   refine wp_seq (wp_region_from (Rk 0 1 [(tB 2 false)] af b fun dh ce => ?_))
   refine wf (wp_ret ?_)
   obtain rfl := Option.some.inj H
   exact rt (.one (.c (.bool false))) ce b rfl
  ·
   rw [ad, cond_false] at H
   refine wp_skip (wp_seq (wp_seq (wp_region_from (Rk 0 3 [(tB 26 (decide (c.kind.n < 2))), (tP 1 0 0)] af b fun di ag => ?_))))
   refine wf (wC (decide (c.kind.n < 2)) ag (fun ae => ?_) (fun ae => ?_))
   ·
    rw [ae, cond_true] at H
    refine wp_seq ?_
    obtain ⟨a0, f, H⟩ := bnd H
    refine wp_mid' (fun a' w' => ∃ (ai : Array Value) (ac : Heap), a' = ⟨ai, []⟩ ∧ Kn 58 [(a, 0)] [(tB 2 a0)] ai ∧ Mem ⟨w, h, noX⟩ ac [(a, 0)] [⟨(K80c1 c), some 24⟩] [] w' ∧ Heap.le z ac) ?_ ?_
    ·
     refine wp_region_from (Rk 0 2 [(tI 28 c.part), (tP 1 0 0)] ag b fun dj cf => ?_)
     obtain ⟨x29, ex29, f⟩ := bnd f
     refine wl fun K hK => ?_
     refine wc [.c (.int .i64 c.part), .c (.int .i64 0), .c (.int .i64 15)] cf b (ref_In_ok n b.has c.part 0 15 ex29) fun dr cy dx bf az y => ?_
     obtain rfl := bf
     refine ⟨.one (.c (.bool x29)), rfl, fun cs (cg : Kn 58 [(a, 0)] [(tB 29 x29), (tI 28 c.part), (tP 1 0 0)] cs) => hK _ _ ?_⟩
     refine Rk 3 1 [(tB 30 x29), (tP 1 0 0)] cg y fun ba ax => ?_
     rcases Bool.eq_false_or_eq_true (x29) with u | u
     ·
      rw [u, cond_true] at f
      have ch : Kn 58 [(a, 0)] [(tB 30 true), (tP 1 0 0)] ba := (ax.setB 30 true (by rfl) u).kp
      refine Rk 4 5 [(tB 2 (c.sg == 0))] ch y fun dk ci => ?_
      refine wf ?_
      obtain rfl := Option.some.inj f
      exact Exists.intro _ ⟨_, rfl, ci.kp, y, az⟩
     ·
      rw [u, cond_false] at f
      have cj : Kn 58 [(a, 0)] [(tB 30 false), (tP 1 0 0)] ba := (ax.setB 30 false (by rfl) u).kp
      refine Rk 4 5 [(tB 2 false)] cj y fun dl ck => ?_
      refine wf ?_
      obtain rfl := Option.some.inj f
      exact Exists.intro _ ⟨_, rfl, ck.kp, y, az⟩
    ·
     rintro _ dy ⟨ai, ac, rfl, cl, cm, c1⟩
     refine wp_ret ?_
     obtain rfl := Option.some.inj H
     exact rt (.one (.c (.bool a0))) cl cm rfl
   ·
    rw [ae, cond_false] at H
    refine wp_skip (wp_seq (wp_region_from (Rk 0 4 [(tB 38 (c.part == 0)), (tP 1 0 0)] ag b fun a2 ak => ?_)))
    rcases Bool.eq_false_or_eq_true ((c.part == 0)) with j | j
    ·
     rw [j, cond_true] at H
     have bg : Kn 58 [(a, 0)] K80m2 a2 := (ak.setB 38 true (by rfl) j).kp
     refine Rk 4 4 ((tB 42 (c.kind.n == 2)) :: K80m2) bg b fun a3 al => ?_
     rcases Bool.eq_false_or_eq_true ((c.kind.n == 2)) with k | k
     ·
      rw [k, cond_true] at H
      have bh : Kn 58 [(a, 0)] ((tB 42 true) :: K80m2) a3 := (al.setB 42 true (by rfl) k).kp
      refine Rk 8 2 ((tI 44 c.sg) :: (tB 42 true) :: K80m2) bh b fun c2 am => ?_
      obtain ⟨x45, ex45, H⟩ := bnd H
      refine wpFrom_loud _ rfl (wantedS_sound am (by kernel_rfl)) fun K hK => ?_
      refine wc [.c (.int .i64 c.sg), .c (.int .i64 1), .c (.int .i64 999)] am b (ref_In_ok n b.has c.sg 1 999 ex45) fun dm cu ds bb cz e => ?_
      obtain rfl := bb
      refine ⟨.one (.c (.bool x45)), rfl, fun cn (bi : Kn 58 [(a, 0)] ((tB 45 x45) :: (tI 44 c.sg) :: (tB 42 true) :: K80m2) cn) => hK _ _ ?_⟩
      refine Rk 11 2 ((tB 47 x45) :: K80m2) bi e fun a4 an => ?_
      rcases Bool.eq_false_or_eq_true (x45) with l | l
      ·
       rw [l, cond_true] at H
       have bk : Kn 58 [(a, 0)] ((tB 47 true) :: K80m2) a4 := (an.setB 47 true (by rfl) l).kp
       refine Rk 13 11 [(tB 2 true)] bk e fun c4 bl => ?_
       refine wf (wp_ret ?_)
       obtain rfl := Option.some.inj H
       exact rt (.one (.c (.bool true))) bl e rfl
      ·
       rw [l, cond_false] at H
       have bm : Kn 58 [(a, 0)] K80m3 a4 := (an.setB 47 false (by rfl) l).kp
       refine Rk 13 4 ((tB 51 (c.kind.n == 3)) :: K80m3) bm e fun a5 ao => ?_
       rcases Bool.eq_false_or_eq_true ((c.kind.n == 3)) with m | m
       ·
        rw [m, cond_true] at H
        have bn : Kn 58 [(a, 0)] ((tB 51 true) :: K80m3) a5 := (ao.setB 51 true (by rfl) m).kp
        refine Rk 17 7 [(tB 2 (c.sg == 0))] bn e fun c5 bo => ?_
        refine wf (wp_ret ?_)
        obtain rfl := Option.some.inj H
        exact rt (.one (.c (.bool (c.sg == 0)))) bo e rfl
       ·
        rw [m, cond_false] at H
        have bp : Kn 58 [(a, 0)] ((tB 51 false) :: K80m3) a5 := (ao.setB 51 false (by rfl) m).kp
        refine Rk 17 7 [(tB 2 false)] bp e fun c6 bq => ?_
        refine wf (wp_ret ?_)
        obtain rfl := Option.some.inj H
        exact rt (.one (.c (.bool false))) bq e rfl
     ·
      rw [k, cond_false] at H
      have br : Kn 58 [(a, 0)] ((tB 42 false) :: K80m2) a3 := (al.setB 42 false (by rfl) k).kp
      refine Rk 8 9 ((tB 51 (c.kind.n == 3)) :: K80m3) br b fun a6 ap => ?_
      rcases Bool.eq_false_or_eq_true ((c.kind.n == 3)) with o | o
      ·
       rw [o, cond_true] at H
       have bs : Kn 58 [(a, 0)] ((tB 51 true) :: K80m3) a6 := (ap.setB 51 true (by rfl) o).kp
       refine Rk 17 7 [(tB 2 (c.sg == 0))] bs b fun c7 bt => ?_
       refine wf (wp_ret ?_)
       obtain rfl := Option.some.inj H
       exact rt (.one (.c (.bool (c.sg == 0)))) bt b rfl
      ·
       rw [o, cond_false] at H
       have bu : Kn 58 [(a, 0)] ((tB 51 false) :: K80m3) a6 := (ap.setB 51 false (by rfl) o).kp
       refine Rk 17 7 [(tB 2 false)] bu b fun c8 bv => ?_
       refine wf (wp_ret ?_)
       obtain rfl := Option.some.inj H
       exact rt (.one (.c (.bool false))) bv b rfl
    ·
     rw [j, cond_false] at H
     have bw : Kn 58 [(a, 0)] [(tB 38 false), (tP 1 0 0)] a2 := (ak.setB 38 false (by rfl) j).kp
     refine Rk 4 20 [(tB 2 false)] bw b fun c9 bx => ?_
     refine wf (wp_ret ?_)
     obtain rfl := Option.some.inj H
     exact rt (.one (.c (.bool false))) bx b rfl
abbrev K54c1 (x17 : Card) : List SC := [.int .i64 x17.bus, .int .i64 x17.number, .int .i64 x17.minute, .int .u8 x17.kind.n, .int .i64 x17.part, .int .i64 x17.sg]
abbrev K54c2 (x34 : Card) : List SC := [.int .i64 x34.bus, .int .i64 x34.number, .int .i64 x34.minute, .int .u8 x34.kind.n, .int .i64 x34.part, .int .i64 x34.sg]
abbrev K54c3 (x39 : Card) : List SC := [.int .i64 x39.bus, .int .i64 x39.number, .int .i64 x39.minute, .int .u8 x39.kind.n, .int .i64 x39.part, .int .i64 x39.sg]
abbrev K54c4 (x46 : Card) : List SC := [.int .i64 x46.bus, .int .i64 x46.number, .int .i64 x46.minute, .int .u8 x46.kind.n, .int .i64 x46.part, .int .i64 x46.sg]
abbrev K54c5 (x50 : Card) : List SC := [.int .i64 x50.bus, .int .i64 x50.number, .int .i64 x50.minute, .int .u8 x50.kind.n, .int .i64 x50.part, .int .i64 x50.sg]
abbrev K54m6 (x_v20 : Int) (a_l : Option Addr) (l : List Card) (c_l : Nat) : TM := [(tI 4 x_v20), (tS 0 a_l l.length c_l)]
set_option maxRecDepth 100000 in
set_option maxHeartbeats 4000000 in
theorem ref_Fault_ok (n : Nat) {h : Heap} {w : World} (hh : Has h w) (l : List Card) {a_l : Option Addr} {c_l : Nat} (hr_l : RepS h a_l c_l l) {r : Int} (H : ref_Fault n l = some r) :
  Calls Try.prog 54 #[.slice a_l l.length c_l] w (Ret (fun h v => v = .int .i64 r) h w) := by
 refine enter 54 [.c (.slice a_l l.length c_l)] Try.func54 rfl rfl rfl rfl fun t hk => ?_
 have hm := Mem.begin h w hh
 unfold ref_Fault at H
 refine wp_seq (wp_region_from (Rk 0 1 [(tS 0 a_l l.length c_l)] hk hm fun d7 cl => ?_))
 refine wf (wp_seq (wp_seq (wp_region_from (Rk 0 3 [(tB 8 (decide (((l.length : Nat) : Int) > 40))), (tS 0 a_l l.length c_l)] cl hm fun em aw => ?_))))
 refine wf (wC (decide (((l.length : Nat) : Int) > 40)) aw (fun ao => ?_) (fun ao => ?_))
 ·
  rw [ao, cond_true] at H
  refine wp_seq (wp_region_from (Rk 0 1 [(tI 2 3)] aw hm fun es cw => ?_))
  refine wf (wp_ret ?_)
  obtain rfl := Option.some.inj H
  exact rt (.one (.c (.int .i64 3))) cw hm rfl
 ·
  rw [ao, cond_false] at H
  refine wp_skip (wp_seq (wp_seq (wp_region_from (Rk 0 1 [(tI 3 0), (tS 0 a_l l.length c_l)] aw hm fun eu cz => ?_))))
  refine wf ?_
  obtain ⟨bm, bc, H⟩ := bnd H
  refine wp_mid' (fun a' w' => ∃ (bq : Unit) (a5 : Array Value) (p : Heap), a' = ⟨a5, []⟩ ∧ Kn 54 [] [(tS 0 a_l l.length c_l)] a5 ∧ Mem ⟨w, h, noX⟩ p [] [] [] w' ∧ Heap.le h p ∧ bm = .go bq) ?_ ?_
  ·
   refine wp_block ?_
   refine wp_loop_n (fun dq a' w' => ∃ (x_v10 : Int) (a6 : Array Value) (q : Heap), a' = ⟨a6, []⟩ ∧ Kn 54 [] [(tI 3 x_v10), (tS 0 a_l l.length c_l)] a6 ∧ Mem ⟨w, h, noX⟩ q [] [] [] w' ∧ Heap.le h q ∧ ref_Fault_l1 dq l x_v10 = some bm) n ?_ ?_
   ·
    exact Exists.intro 0 ⟨_, _, rfl, cz.kp, hm, (Heap.le_refl _), bc⟩
   ·
    rintro ad _ dz ⟨x_v10, a6, q, rfl, cm, ab, az, b⟩
    clear bc
    obtain _ | ad := ad
    ·
     rw [ref_Fault_l1] at b; cases b
    rw [ref_Fault_l1] at b
    replace hr_l := hr_l.mono az
    refine wp_seq (wp_seq (wp_region_from (Rk 0 4 [(tB 12 (decide (x_v10 < ((l.length : Nat) : Int)))), (tI 3 x_v10), (tS 0 a_l l.length c_l)] cm ab fun ek av => ?_)))
    refine wf (wC (decide (x_v10 < ((l.length : Nat) : Int))) av (fun an => ?_) (fun an => ?_))
    ·
     rw [an, cond_true] at b
     refine wp_skip (wp_seq (wp_block (wp_seq (wp_region_from (Rk 0 2 [(tI 16 x_v10), (tS 15 a_l l.length c_l), (tI 3 x_v10), (tS 0 a_l l.length c_l)] av ab fun el cn => ?_)))))
     obtain ⟨x17, ex17, b⟩ := bnd b
     obtain ⟨c8, dd, dp⟩ := idx_some ex17
     obtain ⟨ai, a4, d4, b0, di, b5⟩ := hr_l.get (by decide) dp
     obtain ⟨_, _, rfl, rfl, ⟨_, _, rfl, rfl, ⟨_, _, rfl, rfl, ⟨_, _, rfl, rfl, ⟨_, _, rfl, rfl, rfl⟩⟩⟩⟩⟩ := di
     have a3 : Mem ⟨w, h, noX⟩ q [(ai, a4 + (x_v10 : Int).toNat * 6)] [⟨(K54c1 x17), none⟩] [] dz := ab.addPlc (cs := (K54c1 x17)) (fun j c hj => b5 j _ (map_get hj)) rfl (by kernel_rfl) (by kernel_rfl)
     refine R_index 2 (x_v10) rfl rfl (rfl) rfl (by decide) cn (by rfl) (by rfl) (by rfl) b0 (by rfl) c8 dd (by kernel_rfl) fun dx (co : Kn 54 [(ai, a4 + (x_v10 : Int).toNat * 6)] [(tP 17 0 0), (tI 16 x_v10), (tS 15 a_l l.length c_l), (tI 3 x_v10), (tS 0 a_l l.length c_l)] dx) => ?_
     refine Rk 3 1 [(tA 18 (K54c1 x17)), (tI 3 x_v10), (tS 0 a_l l.length c_l)] co a3 fun en cp => ?_
     obtain ⟨x19, ex19, b⟩ := bnd b
     refine wl fun K hK => ?_
     refine wc [.agg (K54c1 x17)] cp a3 (ref_Right_ok ad a3.has x17 ((rep_pair rep_int (rep_pair rep_int (rep_pair rep_int (rep_pair rep_ik (rep_pair rep_int rep_int))))) : rep q x17 _) ex19) fun ex d5 e0 bu c2 y => ?_
     obtain rfl := bu
     refine ⟨.one (.c (.bool x19)), rfl, fun dy (cq : Kn 54 [(ai, a4 + (x_v10 : Int).toNat * 6)] [(tB 19 x19), (tA 18 (K54c1 x17)), (tI 3 x_v10), (tS 0 a_l l.length c_l)] dy) => hK _ _ ?_⟩
     refine Rk 5 1 [(tB 20 (!x19)), (tI 3 x_v10), (tS 0 a_l l.length c_l)] cq y fun eo ax => ?_
     refine wf (wC ((!x19)) ax (fun ap => ?_) (fun ap => ?_))
     ·
      rw [ap, cond_true] at b
      refine wp_seq (wp_region_from (Rk 0 1 [(tI 2 1)] ax y fun ep cr => ?_))
      refine wf (wp_ret ?_)
      obtain rfl := Option.some.inj b
      obtain rfl := Option.some.inj H
      exact rt (.one (.c (.int .i64 1))) cr y rfl
     ·
      rw [ap, cond_false] at b
      refine wp_skip (wp_region_from (Rk 0 3 [(tI 3 (IntKind.i64.wrap (x_v10 + 1))), (tS 0 a_l l.length c_l)] ax y fun er ct => ?_))
      refine wf ?_
      exact Exists.intro ad ⟨Nat.lt_succ_self _, Exists.intro (IntKind.i64.wrap (x_v10 + 1)) ⟨_, _, rfl, ((ct.keep [3, 0] (by rfl)).cut 0 (by kernel_rfl)), (y.cutPl 0 (by kernel_rfl)), (Heap.le_trans az c2), b⟩⟩
    ·
     rw [an, cond_false] at b
     refine wp_exit ?_
     obtain rfl := Option.some.inj b
     exact Exists.intro () ⟨_, _, rfl, av.kp, ab, az, rfl⟩
  ·
   rintro _ e1 ⟨bq, a5, p, rfl, cu, bl, c3, rfl⟩
   rw [Ex.bind_go] at H
   replace hr_l := hr_l.mono c3
   refine wp_seq (wp_seq (wp_region_from (Rk 0 1 [(tI 4 0), (tS 0 a_l l.length c_l)] cu bl fun et cv => ?_)))
   refine wf ?_
   obtain ⟨bo, bd, H⟩ := bnd H
   refine wp_mid' (fun a' w' => ∃ (br : Unit) (a7 : Array Value) (aj : Heap), a' = ⟨a7, []⟩ ∧ Kn 54 [] [] a7 ∧ Mem ⟨w, h, noX⟩ aj [] [] [] w' ∧ Heap.le p aj ∧ bo = .go br) ?_ ?_
   ·
    refine wp_block ?_
    refine wp_loop_n (fun dr a' w' => ∃ (x_v20 : Int) (a8 : Array Value) (s : Heap), a' = ⟨a8, []⟩ ∧ Kn 54 [] (K54m6 x_v20 a_l l c_l) a8 ∧ Mem ⟨w, h, noX⟩ s [] [] [] w' ∧ Heap.le p s ∧ ref_Fault_l2 dr l x_v20 = some bo) n ?_ ?_
    ·
     exact Exists.intro 0 ⟨_, _, rfl, cv.kp, bl, (Heap.le_refl _), bd⟩
    ·
     rintro ae _ e2 ⟨x_v20, a8, s, rfl, cx, ac, a0, d⟩
     clear bd
     obtain _ | ae := ae
     ·
      rw [ref_Fault_l2] at d; cases d
     rw [ref_Fault_l2] at d
     replace hr_l := hr_l.mono a0
     refine wp_seq (wp_seq (wp_region_from (Rk 0 4 ((tB 24 (decide (x_v20 < ((l.length : Nat) : Int)))) :: (K54m6 x_v20 a_l l c_l)) cx ac fun ev ay => ?_)))
     refine wf (wC (decide (x_v20 < ((l.length : Nat) : Int))) ay (fun aq => ?_) (fun aq => ?_))
     ·
      rw [aq, cond_true] at d
      refine wp_skip (wp_seq (wp_block (wp_seq (wp_region_from (Rk 0 1 ((tI 5 0) :: (K54m6 x_v20 a_l l c_l)) ay ac fun ew cy => ?_)))))
      refine wf ?_
      obtain ⟨bp, be, d⟩ := bnd d
      refine wp_mid' (fun a' w' => ∃ (bs : Unit) (a9 : Array Value) (ak : Heap), a' = ⟨a9, []⟩ ∧ Kn 54 [] (K54m6 x_v20 a_l l c_l) a9 ∧ Mem ⟨w, h, noX⟩ ak [] [] [] w' ∧ Heap.le s ak ∧ bp = .go bs) ?_ ?_
      ·
       refine wp_block ?_
       refine wp_loop_n (fun ds a' w' => ∃ (x_v30 : Int) (ba : Array Value) (k : Heap), a' = ⟨ba, []⟩ ∧ Kn 54 [] ((tI 5 x_v30) :: (K54m6 x_v20 a_l l c_l)) ba ∧ Mem ⟨w, h, noX⟩ k [] [] [] w' ∧ Heap.le s k ∧ ref_Fault_l3 ds l x_v20 x_v30 = some bp) ae ?_ ?_
       ·
        exact Exists.intro 0 ⟨_, _, rfl, cy.kp, ac, (Heap.le_refl _), be⟩
       ·
        rintro af _ ah ⟨x_v30, ba, k, rfl, c0, o, aa, a⟩
        clear be
        obtain _ | af := af
        ·
         rw [ref_Fault_l3] at a; cases a
        rw [ref_Fault_l3] at a
        replace hr_l := hr_l.mono aa
        refine wp_seq (wp_seq (wp_region_from (Rk 0 3 ((tB 29 (decide (x_v30 < x_v20))) :: (tI 5 x_v30) :: (K54m6 x_v20 a_l l c_l)) c0 o fun d8 ar => ?_)))
        refine wf (wC (decide (x_v30 < x_v20)) ar (fun al => ?_) (fun al => ?_))
        ·
         rw [al, cond_true] at a
         refine wp_skip (wp_seq (wp_block (wp_seq (wp_region_G (by kernel_rfl) ?_))))
         replace o := o.drew
         refine wpG_of_D [] [] [] ?_
         refine Dr [0, 1] [1, 0] ((tI 33 x_v20) :: (tS 32 a_l l.length c_l) :: (tI 5 x_v30) :: (K54m6 x_v20 a_l l c_l)) ar o fun d9 b6 => ?_
         obtain ⟨x34, ex34, a⟩ := bnd a
         obtain ⟨c4, c9, dj⟩ := idx_some ex34
         obtain ⟨e, f, d0, bv, de, b1⟩ := hr_l.get (by decide) dj
         obtain ⟨_, _, rfl, rfl, ⟨_, _, rfl, rfl, ⟨_, _, rfl, rfl, ⟨_, _, rfl, rfl, ⟨_, _, rfl, rfl, rfl⟩⟩⟩⟩⟩ := de
         have a1 : Mem ⟨w, h, noX⟩ k [(e, f + (x_v20 : Int).toNat * 6)] [⟨(K54c2 x34), none⟩] [] (World.drew ah) := o.addPlc (cs := (K54c2 x34)) (fun j c hj => b1 j _ (map_get hj)) rfl (by kernel_rfl) (by kernel_rfl)
         refine D_index 2 (x_v20) (K54c2 x34) (fun _ _ _ _ _ h => h) rfl rfl (rfl) rfl (by decide) (by kernel_rfl) (by kernel_rfl) b6 o.plOk (by rfl) (by rfl) (by rfl) bv (by rfl) c4 c9 (by kernel_rfl) fun dt (b7 : Kn 54 [(e, f + (x_v20 : Int).toNat * 6)] ((tP 34 0 0) :: (tI 33 x_v20) :: (tS 32 a_l l.length c_l) :: (tI 5 x_v30) :: (K54m6 x_v20 a_l l c_l)) dt) => ?_
         refine Dr [3, 4, 5, 6] (dn 6) ((tI 38 x_v30) :: (tS 37 a_l l.length c_l) :: (tI 36 x34.number) :: (tI 5 x_v30) :: (K54m6 x_v20 a_l l c_l)) b7 a1 fun ea b8 => ?_
         obtain ⟨x39, ex39, a⟩ := bnd a
         obtain ⟨c5, da, dk⟩ := idx_some ex39
         obtain ⟨g, i, d1, bw, df, b2⟩ := hr_l.get (by decide) dk
         obtain ⟨_, _, rfl, rfl, ⟨_, _, rfl, rfl, ⟨_, _, rfl, rfl, ⟨_, _, rfl, rfl, ⟨_, _, rfl, rfl, rfl⟩⟩⟩⟩⟩ := df
         have m : Mem ⟨w, h, noX⟩ k [(e, f + (x_v20 : Int).toNat * 6), (g, i + (x_v30 : Int).toNat * 6)] [⟨(K54c2 x34), none⟩, ⟨(K54c3 x39), none⟩] [] (World.drew ah) := a1.addPlc (cs := (K54c3 x39)) (fun j c hj => b2 j _ (map_get hj)) rfl (by kernel_rfl) (by kernel_rfl)
         refine D_index 7 (x_v30) (K54c3 x39) (fun _ _ _ _ _ h => h) rfl rfl (rfl) rfl (by decide) (by kernel_rfl) (by kernel_rfl) b8 a1.plOk (by rfl) (by rfl) (by rfl) bw (by rfl) c5 da (by kernel_rfl) fun du (b9 : Kn 54 [(e, f + (x_v20 : Int).toNat * 6), (g, i + (x_v30 : Int).toNat * 6)] ((tP 39 1 0) :: (tI 38 x_v30) :: (tS 37 a_l l.length c_l) :: (tI 36 x34.number) :: (tI 5 x_v30) :: (K54m6 x_v20 a_l l c_l)) du) => ?_
         refine Dr [8, 9, 10, 11] (dn 11) ((tB 43 (x34.number == x39.number)) :: (tI 5 x_v30) :: (K54m6 x_v20 a_l l c_l)) b9 m fun bt bf => ?_
         rcases Bool.eq_false_or_eq_true ((x34.number == x39.number)) with u | u
         ·
          rw [u, cond_true] at a
          have ca : Kn 54 [(e, f + (x_v20 : Int).toNat * 6), (g, i + (x_v30 : Int).toNat * 6)] ((tB 43 true) :: (tI 5 x_v30) :: (K54m6 x_v20 a_l l c_l)) bt := (bf.setB 43 true (by rfl) u).kp
          refine Dr [12, 13] (dn 13) ((tI 45 x_v20) :: (tS 44 a_l l.length c_l) :: (tB 43 true) :: (tI 5 x_v30) :: (K54m6 x_v20 a_l l c_l)) ca m fun eb bg => ?_
          obtain ⟨x46, ex46, a⟩ := bnd a
          obtain ⟨c6, db, dl⟩ := idx_some ex46
          obtain ⟨z, ag, d2, bx, dg, b3⟩ := hr_l.get (by decide) dl
          obtain ⟨_, _, rfl, rfl, ⟨_, _, rfl, rfl, ⟨_, _, rfl, rfl, ⟨_, _, rfl, rfl, ⟨_, _, rfl, rfl, rfl⟩⟩⟩⟩⟩ := dg
          have a2 : Mem ⟨w, h, noX⟩ k [(e, f + (x_v20 : Int).toNat * 6), (g, i + (x_v30 : Int).toNat * 6), (z, ag + (x_v20 : Int).toNat * 6)] [⟨(K54c2 x34), none⟩, ⟨(K54c3 x39), none⟩, ⟨(K54c4 x46), none⟩] [] (World.drew ah) := m.addPlc (cs := (K54c4 x46)) (fun j c hj => b3 j _ (map_get hj)) rfl (by kernel_rfl) (by kernel_rfl)
          refine D_index 14 (x_v20) (K54c4 x46) (fun _ _ _ _ _ h => h) rfl rfl (wantedS_sound bg (by kernel_rfl)) rfl (by decide) (by kernel_rfl) (by kernel_rfl) bg m.plOk (by rfl) (by rfl) (by rfl) bx (by rfl) c6 db (by kernel_rfl) fun dv (cb : Kn 54 [(e, f + (x_v20 : Int).toNat * 6), (g, i + (x_v30 : Int).toNat * 6), (z, ag + (x_v20 : Int).toNat * 6)] ((tP 46 2 0) :: (tI 45 x_v20) :: (tS 44 a_l l.length c_l) :: (tB 43 true) :: (tI 5 x_v30) :: (K54m6 x_v20 a_l l c_l)) dv) => ?_
          refine Dr [15, 16, 17] (dn 17) ((tI 49 x_v30) :: (tS 48 a_l l.length c_l) :: (tA 47 (K54c4 x46)) :: (tB 43 true) :: (tI 5 x_v30) :: (K54m6 x_v20 a_l l c_l)) cb a2 fun ec bh => ?_
          obtain ⟨x50, ex50, a⟩ := bnd a
          obtain ⟨c7, dc, dm⟩ := idx_some ex50
          obtain ⟨bb, bn, d3, bz, dh, b4⟩ := hr_l.get (by decide) dm
          obtain ⟨_, _, rfl, rfl, ⟨_, _, rfl, rfl, ⟨_, _, rfl, rfl, ⟨_, _, rfl, rfl, ⟨_, _, rfl, rfl, rfl⟩⟩⟩⟩⟩ := dh
          have x : Mem ⟨w, h, noX⟩ k [(e, f + (x_v20 : Int).toNat * 6), (g, i + (x_v30 : Int).toNat * 6), (z, ag + (x_v20 : Int).toNat * 6), (bb, bn + (x_v30 : Int).toNat * 6)] [⟨(K54c2 x34), none⟩, ⟨(K54c3 x39), none⟩, ⟨(K54c4 x46), none⟩, ⟨(K54c5 x50), none⟩] [] (World.drew ah) := a2.addPlc (cs := (K54c5 x50)) (fun j c hj => b4 j _ (map_get hj)) rfl (by kernel_rfl) (by kernel_rfl)
          refine D_index 18 (x_v30) (K54c5 x50) (fun _ _ _ _ _ h => h) rfl rfl (wantedS_sound bh (by kernel_rfl)) rfl (by decide) (by kernel_rfl) (by kernel_rfl) bh a2.plOk (by rfl) (by rfl) (by rfl) bz (by rfl) c7 dc (by kernel_rfl) fun dw (cc : Kn 54 [(e, f + (x_v20 : Int).toNat * 6), (g, i + (x_v30 : Int).toNat * 6), (z, ag + (x_v20 : Int).toNat * 6), (bb, bn + (x_v30 : Int).toNat * 6)] ((tP 50 3 0) :: (tI 49 x_v30) :: (tS 48 a_l l.length c_l) :: (tA 47 (K54c4 x46)) :: (tB 43 true) :: (tI 5 x_v30) :: (K54m6 x_v20 a_l l c_l)) dw) => ?_
          refine Dr [19, 20, 21] (dn 21) ((tB 53 (!((x46.bus == x50.bus) && ((x46.number == x50.number) && ((x46.minute == x50.minute) && ((x46.kind.n == x50.kind.n) && ((x46.part == x50.part) && ((x46.sg == x50.sg) && true)))))))) :: (tI 5 x_v30) :: (K54m6 x_v20 a_l l c_l)) cc x fun ed au => ?_
          refine wpD_end (by kernel_rfl) (wC ((!((x46.bus == x50.bus) && ((x46.number == x50.number) && ((x46.minute == x50.minute) && ((x46.kind.n == x50.kind.n) && ((x46.part == x50.part) && ((x46.sg == x50.sg) && true)))))))) au (fun am => ?_) (fun am => ?_))
          ·
           rw [am, cond_true] at a
           refine wp_seq (wp_region_from (Rk 0 1 [(tI 2 6)] au x fun ee cd => ?_))
           refine wf (wp_ret ?_)
           obtain rfl := Option.some.inj a
           obtain rfl := Option.some.inj d
           obtain rfl := Option.some.inj H
           exact rt (.one (.c (.int .i64 6))) cd x rfl
          ·
           rw [am, cond_false] at a
           refine wp_skip (wp_region_from (Rk 0 3 ((tI 5 (IntKind.i64.wrap (x_v30 + 1))) :: (K54m6 x_v20 a_l l c_l)) au x fun ef ce => ?_))
           refine wf ?_
           exact Exists.intro af ⟨Nat.lt_succ_self _, Exists.intro (IntKind.i64.wrap (x_v30 + 1)) ⟨_, _, rfl, ((ce.keep [5, 4, 0] (by rfl)).cut 0 (by kernel_rfl)), (x.cutPl 0 (by kernel_rfl)), aa, a⟩⟩
         ·
          rw [u, cond_false] at a
          have cf : Kn 54 [(e, f + (x_v20 : Int).toNat * 6), (g, i + (x_v30 : Int).toNat * 6)] ((tB 43 false) :: (tI 5 x_v30) :: (K54m6 x_v20 a_l l c_l)) bt := (bf.setB 43 false (by rfl) u).kp
          refine Dr [12, 13, 14, 15, 16, 17, 18, 19, 20, 21] (dn 21) ((tB 53 false) :: (tI 5 x_v30) :: (K54m6 x_v20 a_l l c_l)) cf m fun eg bi => ?_
          refine wpD_end (by kernel_rfl) (wC false bi (fun hb => ?_) (fun hb => ?_))
          ·
           cases hb
          refine wp_skip (wp_region_from (Rk 0 3 ((tI 5 (IntKind.i64.wrap (x_v30 + 1))) :: (K54m6 x_v20 a_l l c_l)) bi m fun eh cg => ?_))
          refine wf ?_
          exact Exists.intro af ⟨Nat.lt_succ_self _, Exists.intro (IntKind.i64.wrap (x_v30 + 1)) ⟨_, _, rfl, ((cg.keep [5, 4, 0] (by rfl)).cut 0 (by kernel_rfl)), (m.cutPl 0 (by kernel_rfl)), aa, a⟩⟩
        ·
         rw [al, cond_false] at a
         refine wp_exit ?_
         obtain rfl := Option.some.inj a
         exact Exists.intro () ⟨_, _, rfl, ar.kp, o, aa, rfl⟩
      ·
       rintro _ ey ⟨bs, a9, ak, rfl, ch, bj, c1, rfl⟩
       rw [Ex.bind_go] at d
       refine wp_region_from (Rk 0 3 [(tI 4 (IntKind.i64.wrap (x_v20 + 1))), (tS 0 a_l l.length c_l)] ch bj fun ei ci => ?_)
       refine wf ?_
       exact Exists.intro ae ⟨Nat.lt_succ_self _, Exists.intro (IntKind.i64.wrap (x_v20 + 1)) ⟨_, _, rfl, ci.kp, bj, (Heap.le_trans a0 c1), d⟩⟩
     ·
      rw [aq, cond_false] at d
      refine wp_exit ?_
      obtain rfl := Option.some.inj d
      exact Exists.intro () ⟨_, _, rfl, ay.kp, ac, a0, rfl⟩
   ·
    rintro _ ez ⟨br, a7, aj, rfl, cj, bk, d6, rfl⟩
    rw [Ex.bind_go] at H
    refine wp_seq (wp_region_from (Rk 0 1 [(tI 2 0)] cj bk fun ej ck => ?_))
    refine wf (wp_ret ?_)
    obtain rfl := Option.some.inj H
    exact rt (.one (.c (.int .i64 0))) ck bk rfl
abbrev K23m1 (a_a : Option Addr) (a : List Int) (c_a : Nat) (a_b : Option Addr) (b : List Int) (c_b : Nat) : TM := [(tS 0 a_a a.length c_a), (tS 1 a_b b.length c_b)]
set_option maxRecDepth 100000 in
set_option maxHeartbeats 4000000 in
theorem law_ints_ok (n : Nat) {h : Heap} {w : World} (hh : Has h w) (a : List Int) {a_a : Option Addr} {c_a : Nat} (hr_a : RepS h a_a c_a a) (b : List Int) {a_b : Option Addr} {c_b : Nat} (hr_b : RepS h a_b c_b b) {r : Bool} (H : law_ints n a b = some r) :
  Calls Try.prog 23 #[.slice a_a a.length c_a, .slice a_b b.length c_b] w (Ret (fun h v => v = .bool r) h w) := by
 refine enter 26 [.c (.slice a_a a.length c_a), .c (.slice a_b b.length c_b)] Try.func23 rfl rfl rfl rfl fun t hk => ?_
 have hm := Mem.begin h w hh
 unfold law_ints at H
 refine wp_seq (wp_region_from (Rk 0 1 (K23m1 a_a a c_a a_b b c_b) hk hm fun bf an => ?_))
 refine wf (wp_seq (wp_seq (wp_region_from (Rk 0 5 ((tB 10 (((a.length : Nat) : Int) != ((b.length : Nat) : Int))) :: (K23m1 a_a a c_a a_b b c_b)) an hm fun bi u => ?_))))
 refine wf (wC ((((a.length : Nat) : Int) != ((b.length : Nat) : Int))) u (fun p => ?_) (fun p => ?_))
 ·
  rw [p, cond_true] at H
  refine wp_seq (wp_region_from (Rk 0 1 [(tB 4 false)] u hm fun bm az => ?_))
  refine wf (wp_ret ?_)
  obtain rfl := Option.some.inj H
  exact rt (.one (.c (.bool false))) az hm rfl
 ·
  rw [p, cond_false] at H
  refine wp_skip (wp_seq (wp_seq (wp_region_from (Rk 0 1 ((tI 5 0) :: (K23m1 a_a a c_a a_b b c_b)) u hm fun bp a0 => ?_))))
  refine wf ?_
  obtain ⟨af, ad, H⟩ := bnd H
  refine wp_mid' (fun a' w' => ∃ (ah : Unit) (aa : Array Value) (m : Heap), a' = ⟨aa, []⟩ ∧ Kn 26 [] [] aa ∧ Mem ⟨w, h, noX⟩ m [] [] [] w' ∧ Heap.le h m ∧ af = .go ah) ?_ ?_
  ·
   refine wp_block ?_
   refine wp_loop_n (fun a9 a' w' => ∃ (x_v10 : Int) (ab : Array Value) (f : Heap), a' = ⟨ab, []⟩ ∧ Kn 26 [] ((tI 5 x_v10) :: (K23m1 a_a a c_a a_b b c_b)) ab ∧ Mem ⟨w, h, noX⟩ f [] [] [] w' ∧ Heap.le h f ∧ law_ints_l1 a9 a b x_v10 = some af) n ?_ ?_
   ·
    exact Exists.intro 0 ⟨_, _, rfl, a0.kp, hm, (Heap.le_refl _), ad⟩
   ·
    rintro z _ ai ⟨x_v10, ab, f, rfl, ao, e, k, d⟩
    clear ad
    obtain _ | z := z
    ·
     rw [law_ints_l1] at d; cases d
    rw [law_ints_l1] at d
    replace hr_a := hr_a.mono k
    replace hr_b := hr_b.mono k
    refine wp_seq (wp_seq (wp_region_from (Rk 0 4 ((tB 14 (decide (x_v10 < ((a.length : Nat) : Int)))) :: (tI 5 x_v10) :: (K23m1 a_a a c_a a_b b c_b)) ao e fun bg s => ?_)))
    refine wf (wC (decide (x_v10 < ((a.length : Nat) : Int))) s (fun o => ?_) (fun o => ?_))
    ·
     rw [o, cond_true] at d
     refine wp_skip (wp_seq (wp_block (wp_seq (wp_region_G (by kernel_rfl) ?_))))
     replace e := e.drew
     refine wpG_of_D [] [] [] ?_
     refine Dr [0, 1] [1, 0] ((tI 18 x_v10) :: (tS 17 a_a a.length c_a) :: (tI 5 x_v10) :: (K23m1 a_a a c_a a_b b c_b)) s e fun bh ap => ?_
     obtain ⟨x19, ex19, d⟩ := bnd d
     obtain ⟨a1, a3, a7⟩ := idx_some ex19
     obtain ⟨i, l, bc, aj, a5, al⟩ := hr_a.get (by decide) a7
     obtain rfl := a5
     have y : Mem ⟨w, h, noX⟩ f [(i, l + (x_v10 : Int).toNat * 1)] [⟨[.int .i64 x19], none⟩] [] (World.drew ai) := e.addPlc (cs := [.int .i64 x19]) (fun j c hj => al j _ (map_get hj)) rfl (by kernel_rfl) (by kernel_rfl)
     refine D_index 2 (x_v10) [.int .i64 x19] (fun _ _ _ _ _ h => h) rfl rfl (rfl) rfl (by decide) (by kernel_rfl) (by kernel_rfl) ap e.plOk (by rfl) (by rfl) (by rfl) aj (by rfl) a1 a3 (by kernel_rfl) fun ba (aq : Kn 26 [(i, l + (x_v10 : Int).toNat * 1)] ((tP 19 0 0) :: (tI 18 x_v10) :: (tS 17 a_a a.length c_a) :: (tI 5 x_v10) :: (K23m1 a_a a c_a a_b b c_b)) ba) => ?_
     refine Dr [3, 4, 5] (dn 5) ((tI 22 x_v10) :: (tS 21 a_b b.length c_b) :: (tI 20 x19) :: (tI 5 x_v10) :: (K23m1 a_a a c_a a_b b c_b)) aq y fun bj ar => ?_
     obtain ⟨x23, ex23, d⟩ := bnd d
     obtain ⟨a2, a4, a8⟩ := idx_some ex23
     obtain ⟨ac, ag, bd, ak, a6, am⟩ := hr_b.get (by decide) a8
     obtain rfl := a6
     have g : Mem ⟨w, h, noX⟩ f [(i, l + (x_v10 : Int).toNat * 1), (ac, ag + (x_v10 : Int).toNat * 1)] [⟨[.int .i64 x19], none⟩, ⟨[.int .i64 x23], none⟩] [] (World.drew ai) := y.addPlc (cs := [.int .i64 x23]) (fun j c hj => am j _ (map_get hj)) rfl (by kernel_rfl) (by kernel_rfl)
     refine D_index 6 (x_v10) [.int .i64 x23] (fun _ _ _ _ _ h => h) rfl rfl (rfl) rfl (by decide) (by kernel_rfl) (by kernel_rfl) ar y.plOk (by rfl) (by rfl) (by rfl) ak (by rfl) a2 a4 (by kernel_rfl) fun bb (au : Kn 26 [(i, l + (x_v10 : Int).toNat * 1), (ac, ag + (x_v10 : Int).toNat * 1)] ((tP 23 1 0) :: (tI 22 x_v10) :: (tS 21 a_b b.length c_b) :: (tI 20 x19) :: (tI 5 x_v10) :: (K23m1 a_a a c_a a_b b c_b)) bb) => ?_
     refine Dr [7, 8] (dn 8) ((tB 25 (x19 != x23)) :: (tI 5 x_v10) :: (K23m1 a_a a c_a a_b b c_b)) au g fun bk x => ?_
     refine wpD_end (by kernel_rfl) (wC ((x19 != x23)) x (fun q => ?_) (fun q => ?_))
     ·
      rw [q, cond_true] at d
      refine wp_seq (wp_region_from (Rk 0 1 [(tB 4 false)] x g fun bl av => ?_))
      refine wf (wp_ret ?_)
      obtain rfl := Option.some.inj d
      obtain rfl := Option.some.inj H
      exact rt (.one (.c (.bool false))) av g rfl
     ·
      rw [q, cond_false] at d
      refine wp_skip (wp_region_from (Rk 0 3 ((tI 5 (IntKind.i64.wrap (x_v10 + 1))) :: (K23m1 a_a a c_a a_b b c_b)) x g fun bn aw => ?_))
      refine wf ?_
      exact Exists.intro z ⟨Nat.lt_succ_self _, Exists.intro (IntKind.i64.wrap (x_v10 + 1)) ⟨_, _, rfl, ((aw.keep [5, 0, 1] (by rfl)).cut 0 (by kernel_rfl)), (g.cutPl 0 (by kernel_rfl)), k, d⟩⟩
    ·
     rw [o, cond_false] at d
     refine wp_exit ?_
     obtain rfl := Option.some.inj d
     exact Exists.intro () ⟨_, _, rfl, s.kp, e, k, rfl⟩
  ·
   rintro _ bq ⟨ah, aa, m, rfl, ax, ae, be, rfl⟩
   rw [Ex.bind_go] at H
   refine wp_seq (wp_region_from (Rk 0 1 [(tB 4 true)] ax ae fun bo ay => ?_))
   refine wf (wp_ret ?_)
   obtain rfl := Option.some.inj H
   exact rt (.one (.c (.bool true))) ay ae rfl
abbrev K59c1 (c : Card) : List SC := [.int .i64 c.bus, .int .i64 c.number, .int .i64 c.minute, .int .u8 c.kind.n, .int .i64 c.part, .int .i64 c.sg]
set_option maxRecDepth 100000 in
set_option maxHeartbeats 4000000 in
theorem law_card_ok (n : Nat) {h : Heap} {w : World} (hh : Has h w) (c : Card) {cs_c : List Value} (hx_c : rep h c cs_c) {r : Card} (H : law_card n c = some r) :
  Calls Try.prog 59 #[.agg cs_c.toArray] w (Ret (fun h v => ∃ cs, v = .agg cs.toArray ∧ rep h r cs) h w) := by
 obtain ⟨_, _, rfl, rfl, ⟨_, _, rfl, rfl, ⟨_, _, rfl, rfl, ⟨_, _, rfl, rfl, ⟨_, _, rfl, rfl, rfl⟩⟩⟩⟩⟩ := hx_c
 refine enter 16 [.agg (K59c1 c)] Try.func59 rfl rfl rfl rfl fun t hk => ?_
 have hm := Mem.begin h w hh
 unfold law_card at H
 refine wp_seq (wp_region_from (wl fun K hK => ?_))
 refine wb (.agg (K59c1 c)) hk hm fun a q u (k : Kn 16 [(a, 0)] [(tP 1 0 0), (tA 0 (K59c1 c))] q) (o : Mem ⟨w, h, noX⟩ h [(a, 0)] [⟨(K59c1 c), some 24⟩] [] u) => hK _ _ ?_
 refine wl fun K hK => ?_
 refine wa [.int .i64 0, .int .i64 0, .int .i64 0, .int .u8 0, .int .i64 0, .int .i64 0] k o fun b e x (l : Kn 16 [(a, 0), (b, 0)] [(tP 2 1 0), (tP 1 0 0), (tA 0 (K59c1 c))] e) (d : Mem ⟨w, h, noX⟩ h [(a, 0), (b, 0)] [⟨(K59c1 c), some 24⟩, ⟨[.int .i64 0, .int .i64 0, .int .i64 0, .int .u8 0, .int .i64 0, .int .i64 0], some 99⟩] [] x) => hK _ _ ?_
 have f : Kn 16 [(a, 0), (b, 0)] [(tP 2 1 0), (tP 1 0 0)] e := l.kp
 refine wf (wp_seq (wp_region_from (Rk 0 13 [(tA 15 (K59c1 c)), (tP 2 1 0)] f d fun p g => ?_)))
 refine wl fun K hK => ?_
 refine wst 1 0 (.agg (K59c1 c)) (K59c1 c) g d fun s i (m : Mem ⟨w, h, noX⟩ h [(a, 0), (b, 0)] [⟨(K59c1 c), some 24⟩, ⟨(K59c1 c), some 99⟩] [] s) => hK _ _ ?_
 have j : Kn 16 [(a, 0), (b, 0)] [(tP 2 1 0)] p := i.kp
 refine wf (wp_ret ?_)
 obtain rfl := Option.some.inj H
 exact rt (.one (.agg (K59c1 c))) j m ⟨_, rfl, ((rep_pair rep_int (rep_pair rep_int (rep_pair rep_int (rep_pair rep_ik (rep_pair rep_int rep_int))))) : rep h (c : Card) _)⟩
abbrev K20c1 (x14 : Card) : List SC := [.int .i64 x14.bus, .int .i64 x14.number, .int .i64 x14.minute, .int .u8 x14.kind.n, .int .i64 x14.part, .int .i64 x14.sg]
abbrev K20c2 (x16 : Card) : List SC := [.int .i64 x16.bus, .int .i64 x16.number, .int .i64 x16.minute, .int .u8 x16.kind.n, .int .i64 x16.part, .int .i64 x16.sg]
set_option maxRecDepth 100000 in
set_option maxHeartbeats 4000000 in
theorem law_Cards_ok (n : Nat) {h : Heap} {w : World} (hh : Has h w) (l : List Card) {a_l : Option Addr} {c_l : Nat} (hr_l : RepS h a_l c_l l) {r : List Card} (H : law_Cards n l = some r) :
  Calls Try.prog 20 #[.slice a_l l.length c_l] w (Ret (fun h v => ∃ a c, v = .slice a r.length c ∧ RepS h a c r) h w) := by
 refine enter 20 [.c (.slice a_l l.length c_l)] Try.func20 rfl rfl rfl rfl fun t hk => ?_
 have hm := Mem.begin h w hh
 unfold law_Cards at H
 refine wp_seq (wp_region_from (Rk 0 1 [(tS 0 a_l l.length c_l)] hk hm fun b3 a3 => ?_))
 refine wf (wp_seq (wp_region_from (Rk 0 1 [(tS 3 none 0 0), (tS 0 a_l l.length c_l)] a3 hm fun b4 a6 => ?_)))
 refine wf (wp_seq (wp_seq (wp_region_from (Rk 0 1 [(tI 4 0), (tS 3 none 0 0), (tS 0 a_l l.length c_l)] a6 hm fun b8 ba => ?_))))
 refine wf ?_
 have bk : Mem ⟨w, h, noX⟩ h [] [] [⟨none, 0, 0, 99, 6, [], 0⟩] w := hm.nilRow 99 6
 have a1 : Cells h ([] : List Card) [] := Cells.nil
 obtain ⟨g, aq, H⟩ := bnd H
 refine wp_mid' (fun a' w' => ∃ (k : Option Addr) (o : Nat) (y : List Value) (ao : Array Value) (aa : Heap), a' = ⟨ao, []⟩ ∧ Kn 20 [] [(tS 3 k g.length o)] ao ∧ Mem ⟨w, h, noX⟩ aa [] [] [⟨k, g.length, o, 99, 6, y, 0⟩] w' ∧ Heap.le h aa ∧ Cells aa g y) ?_ ?_
 ·
  refine wp_block ?_
  refine wp_loop_n (fun br a' w' => ∃ (x_v10 : List Card) (x_v11 : Int) (b : Option Addr) (d : Nat) (f : List Value) (ap : Array Value) (q : Heap), a' = ⟨ap, []⟩ ∧ Kn 20 [] [(tI 4 x_v11), (tS 3 b x_v10.length d), (tS 0 a_l l.length c_l)] ap ∧ Mem ⟨w, h, noX⟩ q [] [] [⟨b, x_v10.length, d, 99, 6, f, 0⟩] w' ∧ Heap.le h q ∧ Cells q x_v10 f ∧ law_Cards_l1 br l x_v10 x_v11 = some g) n ?_ ?_
  ·
   exact Exists.intro ([] : List Card) ⟨0, none, 0, ([]), _, _, rfl, ba.kp, bk, (Heap.le_refl _), a1, aq⟩
  ·
   rintro ad _ bw ⟨x_v10, x_v11, b, d, f, ap, q, rfl, a4, ac, ai, ab, e⟩
   clear aq
   obtain _ | ad := ad
   ·
    rw [law_Cards_l1] at e; cases e
   rw [law_Cards_l1] at e
   replace hr_l := hr_l.mono ai
   refine wp_seq (wp_seq (wp_region_from (Rk 0 4 [(tB 8 (decide (x_v11 < ((l.length : Nat) : Int)))), (tI 4 x_v11), (tS 3 b x_v10.length d), (tS 0 a_l l.length c_l)] a4 ac fun b5 ah => ?_)))
   refine wf (wC (decide (x_v11 < ((l.length : Nat) : Int))) ah (fun ae => ?_) (fun ae => ?_))
   ·
    rw [ae, cond_true] at e
    refine wp_skip (wp_seq (wp_block (wp_region_from (Rk 0 3 [(tI 13 x_v11), (tS 12 a_l l.length c_l), (tS 11 b x_v10.length d), (tI 4 x_v11), (tS 0 a_l l.length c_l)] ah ac fun b6 a5 => ?_))))
    obtain ⟨x14, ex14, e⟩ := bnd e
    obtain ⟨bl, bm, bq⟩ := idx_some ex14
    obtain ⟨m, p, b1, ay, bp, az⟩ := hr_l.get (by decide) bq
    obtain ⟨_, _, rfl, rfl, ⟨_, _, rfl, rfl, ⟨_, _, rfl, rfl, ⟨_, _, rfl, rfl, ⟨_, _, rfl, rfl, rfl⟩⟩⟩⟩⟩ := bp
    have aj : Mem ⟨w, h, noX⟩ q [(m, p + (x_v11 : Int).toNat * 6)] [⟨(K20c1 x14), none⟩] [⟨b, x_v10.length, d, 99, 6, f, 0⟩] bw := ac.addPlc (cs := (K20c1 x14)) (fun j c hj => az j _ (map_get hj)) rfl (by kernel_rfl) (by kernel_rfl)
    refine R_index 3 (x_v11) rfl rfl (rfl) rfl (by decide) a5 (by rfl) (by rfl) (by rfl) ay (by rfl) bl bm (by kernel_rfl) fun bs (a7 : Kn 20 [(m, p + (x_v11 : Int).toNat * 6)] [(tP 14 0 0), (tI 13 x_v11), (tS 12 a_l l.length c_l), (tS 11 b x_v10.length d), (tI 4 x_v11), (tS 0 a_l l.length c_l)] bs) => ?_
    refine Rk 4 1 [(tA 15 (K20c1 x14)), (tS 11 b x_v10.length d), (tI 4 x_v11), (tS 0 a_l l.length c_l)] a7 aj fun b7 a8 => ?_
    obtain ⟨x16, ex16, e⟩ := bnd e
    refine wl fun K hK => ?_
    refine wc [.agg (K20c1 x14)] a8 aj (law_card_ok ad aj.has x14 ((rep_pair rep_int (rep_pair rep_int (rep_pair rep_int (rep_pair rep_ik (rep_pair rep_int rep_int))))) : rep q x14 _) ex16) fun cc x cd ax av bj => ?_
    replace ab := ab.mono av
    obtain ⟨_, rfl, ⟨_, _, rfl, rfl, ⟨_, _, rfl, rfl, ⟨_, _, rfl, rfl, ⟨_, _, rfl, rfl, ⟨_, _, rfl, rfl, rfl⟩⟩⟩⟩⟩⟩ := ax
    refine ⟨.one (.agg (K20c2 x16)), rfl, fun bt (a9 : Kn 20 [(m, p + (x_v11 : Int).toNat * 6)] [(tA 16 (K20c2 x16)), (tA 15 (K20c1 x14)), (tS 11 b x_v10.length d), (tI 4 x_v11), (tS 0 a_l l.length c_l)] bt) => hK _ _ ?_⟩
    refine wl fun K hK => ?_
    refine wS 99 6 (K20c2 x16) a9 bj fun z bu bx (bb : Kn 20 [(m, p + (x_v11 : Int).toNat * 6)] [(tS 17 z 1 1), (tA 16 (K20c2 x16)), (tA 15 (K20c1 x14)), (tS 11 b x_v10.length d), (tI 4 x_v11), (tS 0 a_l l.length c_l)] bu) (aw : Mem ⟨w, h, noX⟩ x [(m, p + (x_v11 : Int).toNat * 6)] [⟨(K20c1 x14), none⟩] [⟨b, x_v10.length, d, 99, 6, f, 0⟩, ⟨z, 1, 1, 99, 6, ([.int .i64 x16.bus, .int .i64 x16.number, .int .i64 x16.minute, .int .u8 x16.kind.n, .int .i64 x16.part, .int .i64 x16.sg] : List Value), 0⟩] bx) => ?_
    have ag : Cells x ([x16] : List Card) ([.int .i64 x16.bus, .int .i64 x16.number, .int .i64 x16.minute, .int .u8 x16.kind.n, .int .i64 x16.part, .int .i64 x16.sg] : List Value) := ⟨_, _, rfl, ((rep_pair rep_int (rep_pair rep_int (rep_pair rep_int (rep_pair rep_ik (rep_pair rep_int rep_int))))) : rep x (x16 : Card) _), rfl⟩
    refine hK _ _ ?_
    obtain ⟨x18, ex18, e⟩ := bnd e
    obtain ⟨an, bh⟩ := app_some ex18
    refine wl fun K hK => ?_
    refine wp_append 0 48 1 _ (x18.length) _ ([.int .i64 x16.bus, .int .i64 x16.number, .int .i64 x16.minute, .int .u8 x16.kind.n, .int .i64 x16.part, .int .i64 x16.sg] : List Value) bb aw rfl rfl (by decide) rfl (by rfl) (by kernel_rfl) (by rfl) (by rfl) (Cells.len ag) (aw.rowCell (i := 1) rfl) ag.one (by rw [an]; simp <;> omega) (by rw [an]; exact bh) (by decide) fun s u ar bv bz a2 (bc : Kn 20 [(m, p + (x_v11 : Int).toNat * 6)] [(tS 18 s x18.length u), (tS 17 z 1 1), (tA 16 (K20c2 x16)), (tA 15 (K20c1 x14)), (tS 11 b x_v10.length d), (tI 4 x_v11), (tS 0 a_l l.length c_l)] bv) (ak : Mem ⟨w, h, noX⟩ x [(m, p + (x_v11 : Int).toNat * 6)] [⟨(K20c1 x14), none⟩] [⟨s, x18.length, u, 99, 6, (f ++ ([.int .i64 x16.bus, .int .i64 x16.number, .int .i64 x16.minute, .int .u8 x16.kind.n, .int .i64 x16.part, .int .i64 x16.sg] : List Value)), ar⟩, ⟨z, 1, 1, 99, 6, ([.int .i64 x16.bus, .int .i64 x16.number, .int .i64 x16.minute, .int .u8 x16.kind.n, .int .i64 x16.part, .int .i64 x16.sg] : List Value), 0⟩] bz) => ?_
    have a0 : Cells x x18 (f ++ ([.int .i64 x16.bus, .int .i64 x16.number, .int .i64 x16.minute, .int .u8 x16.kind.n, .int .i64 x16.part, .int .i64 x16.sg] : List Value)) := by rw [an]; exact Cells.append ab ag
    obtain rfl : ar = 0 := Nat.le_zero.1 a2
    refine hK _ _ ?_
    refine Rk 8 1 [(tS 3 s x18.length u), (tI 4 x_v11), (tS 0 a_l l.length c_l)] bc ak fun b9 bd => ?_
    refine wf (wp_region_from (Rk 0 3 [(tI 4 (IntKind.i64.wrap (x_v11 + 1))), (tS 3 s x18.length u), (tS 0 a_l l.length c_l)] bd ak fun ca be => ?_))
    refine wf ?_
    exact Exists.intro ad ⟨Nat.lt_succ_self _, Exists.intro x18 ⟨(IntKind.i64.wrap (x_v11 + 1)), s, u, (f ++ ([.int .i64 x16.bus, .int .i64 x16.number, .int .i64 x16.minute, .int .u8 x16.kind.n, .int .i64 x16.part, .int .i64 x16.sg] : List Value)), _, _, rfl, ((be.keep [4, 3, 0] (by rfl)).cut 0 (by kernel_rfl)), ((ak.cutRw 1).cutPl 0 (by kernel_rfl)), (Heap.le_trans ai av), a0, e⟩⟩
   ·
    rw [ae, cond_false] at e
    refine wp_exit ?_
    obtain rfl := Option.some.inj e
    exact Exists.intro b ⟨d, f, _, _, rfl, ah.kp, ac, ai, ab⟩
 ·
  rintro _ b0 ⟨k, o, y, ao, aa, rfl, bf, al, b2, af⟩
  refine wp_seq (wp_region_from (Rk 0 2 [(tS 2 k g.length o)] bf al fun cb bg => ?_))
  refine wf (wp_ret ?_)
  obtain ⟨au, bi, bo, am⟩ := al.settle (i := 0) rfl
  replace af := af.mono bi
  replace am : Mem ⟨w, h, noX⟩ au [] [] [⟨k, g.length, o, 99, 6, y, (y : List Value).length⟩] b0 := am
  have bn : RepS au k o g := ⟨_, af, bo, al.rowCap (i := 0) rfl⟩
  obtain rfl := Option.some.inj H
  exact rt (.one (.c (.slice k g.length o))) bg am ⟨_, _, rfl, bn⟩
set_option maxRecDepth 100000 in
set_option maxHeartbeats 4000000 in
theorem law_fault_ok (n : Nat) {h : Heap} {w : World} (hh : Has h w) (l : List Card) {a_l : Option Addr} {c_l : Nat} (hr_l : RepS h a_l c_l l) {r : Int} (H : law_fault n l = some r) :
  Calls Try.prog 25 #[.slice a_l l.length c_l] w (Ret (fun h v => v = .int .i64 r) h w) := by
 refine enter 5 [.c (.slice a_l l.length c_l)] Try.func25 rfl rfl rfl rfl fun t hk => ?_
 have hm := Mem.begin h w hh
 unfold law_fault at H
 refine wp_seq (wp_region_from (Rk 0 1 [(tS 0 a_l l.length c_l)] hk hm fun m f => ?_))
 refine wf (wp_seq (wp_region_from (Rk 0 1 [(tS 3 a_l l.length c_l)] f hm fun p g => ?_)))
 obtain ⟨x4, ex4, H⟩ := bnd H
 refine wl fun K hK => ?_
 refine wc [.c (.slice a_l l.length c_l)] g hm (ref_Fault_ok n hm.has l hr_l ex4) fun q j s b k a => ?_
 obtain rfl := b
 refine ⟨.one (.c (.int .i64 x4)), rfl, fun i (d : Kn 5 [] [(tI 4 x4), (tS 3 a_l l.length c_l)] i) => hK _ _ ?_⟩
 refine Rk 2 1 [(tI 2 x4)] d a fun o e => ?_
 refine wf (wp_ret ?_)
 obtain rfl := Option.some.inj H
 exact rt (.one (.c (.int .i64 x4))) e a rfl
abbrev K62c1 (c : Card) : List SC := [.int .i64 c.bus, .int .i64 c.number, .int .i64 c.minute, .int .u8 c.kind.n, .int .i64 c.part, .int .i64 c.sg]
set_option maxRecDepth 100000 in
set_option maxHeartbeats 4000000 in
theorem ref_Defect_ok (n : Nat) {h : Heap} {w : World} (hh : Has h w) (c : Card) {cs_c : List Value} (hx_c : rep h c cs_c) {r : Bool} (H : ref_Defect n c = some r) :
  Calls Try.prog 62 #[.agg cs_c.toArray] w (Ret (fun h v => v = .bool r) h w) := by
 obtain ⟨_, _, rfl, rfl, ⟨_, _, rfl, rfl, ⟨_, _, rfl, rfl, ⟨_, _, rfl, rfl, ⟨_, _, rfl, rfl, rfl⟩⟩⟩⟩⟩ := hx_c
 refine enter 6 [.agg (K62c1 c)] Try.func62 rfl rfl rfl rfl fun t hk => ?_
 have hm := Mem.begin h w hh
 unfold ref_Defect at H
 refine wp_seq (wp_region_from (wl fun K hK => ?_))
 refine wb (.agg (K62c1 c)) hk hm fun b g i (d : Kn 6 [(b, 0)] [(tP 1 0 0), (tA 0 (K62c1 c))] g) (a : Mem ⟨w, h, noX⟩ h [(b, 0)] [⟨(K62c1 c), some 24⟩] [] i) => hK _ _ ?_
 refine Rk 1 1 [(tP 1 0 0)] d a fun j e => ?_
 refine wf (wp_seq (wp_region_from (Rk 0 4 [(tB 2 (decide (c.kind.n < 2)))] e a fun k f => ?_)))
 refine wf (wp_ret ?_)
 obtain rfl := Option.some.inj H
 exact rt (.one (.c (.bool (decide (c.kind.n < 2))))) f a rfl
abbrev K63e1 (b f g : Nat) (x_v10 : Int) (i : Nat) : Env := [(b, 0), (f, g + (x_v10 : Int).toNat * 6), (i, 0)]
abbrev K63c2 (d : Card) : List SC := [.int .i64 d.bus, .int .i64 d.number, .int .i64 d.minute, .int .u8 d.kind.n, .int .i64 d.part, .int .i64 d.sg]
abbrev K63c3 (x21 : Card) : List SC := [.int .i64 x21.bus, .int .i64 x21.number, .int .i64 x21.minute, .int .u8 x21.kind.n, .int .i64 x21.part, .int .i64 x21.sg]
abbrev K63m4 (x_v10 : Int) (a_l : Option Addr) (l : List Card) (c_l : Nat) (minute : Int) : TM := [(tI 7 x_v10), (tP 4 0 0), (tS 0 a_l l.length c_l), (tI 2 minute)]
abbrev K63m5 (x_v10 : Int) (a_l : Option Addr) (l : List Card) (c_l : Nat) (minute : Int) : TM := [(tI 7 (IntKind.i64.wrap (x_v10 + 1))), (tP 4 0 0), (tS 0 a_l l.length c_l), (tI 2 minute)]
set_option maxRecDepth 100000 in
set_option maxHeartbeats 4000000 in
theorem ref_Open_ok (n : Nat) {h : Heap} {w : World} (hh : Has h w) (l : List Card) {a_l : Option Addr} {c_l : Nat} (hr_l : RepS h a_l c_l l) (d : Card) {cs_d : List Value} (hx_d : rep h d cs_d) (minute : Int) {r : Bool} (H : ref_Open n l d minute = some r) :
  Calls Try.prog 63 #[.slice a_l l.length c_l, .agg cs_d.toArray, .int .i64 minute] w (Ret (fun h v => v = .bool r) h w) := by
 obtain ⟨_, _, rfl, rfl, ⟨_, _, rfl, rfl, ⟨_, _, rfl, rfl, ⟨_, _, rfl, rfl, ⟨_, _, rfl, rfl, rfl⟩⟩⟩⟩⟩ := hx_d
 refine enter 61 [.c (.slice a_l l.length c_l), .agg (K63c2 d), .c (.int .i64 minute)] Try.func63 rfl rfl rfl rfl fun t hk => ?_
 have hm := Mem.begin h w hh
 unfold ref_Open at H
 refine wp_seq (wp_region_from (wl fun K hK => ?_))
 refine wb (.agg (K63c2 d)) hk hm fun b cq cu (b1 : Kn 61 [(b, 0)] [(tP 4 0 0), (tS 0 a_l l.length c_l), (tA 1 (K63c2 d)), (tI 2 minute)] cq) (s : Mem ⟨w, h, noX⟩ h [(b, 0)] [⟨(K63c2 d), some 24⟩] [] cu) => hK _ _ ?_
 refine Rk 1 1 [(tP 4 0 0), (tS 0 a_l l.length c_l), (tI 2 minute)] b1 s fun df ca => ?_
 refine wf (wp_seq (wp_seq (wp_region_from (Rk 0 4 [(tB 12 (decide (d.minute > minute))), (tP 4 0 0), (tS 0 a_l l.length c_l), (tI 2 minute)] ca s fun dj ap => ?_))))
 refine wf (wC (decide (d.minute > minute)) ap (fun ag => ?_) (fun ag => ?_))
 ·
  rw [ag, cond_true] at H
  refine wp_seq (wp_region_from (Rk 0 1 [(tB 6 false)] ap s fun c3 bq => ?_))
  refine wf (wp_ret ?_)
  obtain rfl := Option.some.inj H
  exact rt (.one (.c (.bool false))) bq s rfl
 ·
  rw [ag, cond_false] at H
  refine wp_skip (wp_seq (wp_seq (wp_region_from (Rk 0 1 [(tI 7 0), (tP 4 0 0), (tS 0 a_l l.length c_l), (tI 2 minute)] ap s fun da bx => ?_))))
  refine wf ?_
  obtain ⟨a7, av, H⟩ := bnd H
  refine wp_mid' (fun a' w' => ∃ (a9 : Unit) (aq : Array Value) (ae : Heap), a' = ⟨aq, []⟩ ∧ Kn 61 [(b, 0)] [] aq ∧ Mem ⟨w, h, noX⟩ ae [(b, 0)] [⟨(K63c2 d), some 24⟩] [] w' ∧ Heap.le h ae ∧ a7 = .go a9) ?_ ?_
  ·
   refine wp_block ?_
   refine wp_loop_n (fun cp a' w' => ∃ (x_v10 : Int) (ar : Array Value) (o : Heap), a' = ⟨ar, []⟩ ∧ Kn 61 [(b, 0)] (K63m4 x_v10 a_l l c_l minute) ar ∧ Mem ⟨w, h, noX⟩ o [(b, 0)] [⟨(K63c2 d), some 24⟩] [] w' ∧ Heap.le h o ∧ ref_Open_l1 cp l d minute x_v10 = some a7) n ?_ ?_
   ·
    exact Exists.intro 0 ⟨_, _, rfl, bx.kp, s, (Heap.le_refl _), av⟩
   ·
    rintro q _ ct ⟨x_v10, ar, o, rfl, bz, ad, p, a⟩
    clear av
    obtain _ | q := q
    ·
     rw [ref_Open_l1] at a; cases a
    rw [ref_Open_l1] at a
    replace hr_l := hr_l.mono p
    refine wp_seq (wp_seq (wp_region_from (Rk 0 4 ((tB 16 (decide (x_v10 < ((l.length : Nat) : Int)))) :: (K63m4 x_v10 a_l l c_l minute)) bz ad fun dc an => ?_)))
    refine wf (wC (decide (x_v10 < ((l.length : Nat) : Int))) an (fun aj => ?_) (fun aj => ?_))
    ·
     rw [aj, cond_true] at a
     refine wp_skip (wp_seq (wp_block (wp_seq (wp_region_from (Rk 0 2 ((tI 20 x_v10) :: (tS 19 a_l l.length c_l) :: (K63m4 x_v10 a_l l c_l minute)) an ad fun dd b0 => ?_)))))
     obtain ⟨x21, ex21, a⟩ := bnd a
     obtain ⟨cl, cm, co⟩ := idx_some ex21
     obtain ⟨f, g, cx, bh, cn, bi⟩ := hr_l.get (by decide) co
     obtain ⟨_, _, rfl, rfl, ⟨_, _, rfl, rfl, ⟨_, _, rfl, rfl, ⟨_, _, rfl, rfl, ⟨_, _, rfl, rfl, rfl⟩⟩⟩⟩⟩ := cn
     have a6 : Mem ⟨w, h, noX⟩ o [(b, 0), (f, g + (x_v10 : Int).toNat * 6)] [⟨(K63c2 d), some 24⟩, ⟨(K63c3 x21), none⟩] [] ct := ad.addPlc (cs := (K63c3 x21)) (fun j c hj => bi j _ (map_get hj)) rfl (by kernel_rfl) (by kernel_rfl)
     refine R_index 2 (x_v10) rfl rfl (rfl) rfl (by decide) b0 (by rfl) (by rfl) (by rfl) bh (by rfl) cl cm (by kernel_rfl) fun cr (b2 : Kn 61 [(b, 0), (f, g + (x_v10 : Int).toNat * 6)] ((tP 21 1 0) :: (tI 20 x_v10) :: (tS 19 a_l l.length c_l) :: (K63m4 x_v10 a_l l c_l minute)) cr) => ?_
     refine Rk 3 1 ((tA 22 (K63c3 x21)) :: (K63m4 x_v10 a_l l c_l minute)) b2 a6 fun de b3 => ?_
     refine wl fun K hK => ?_
     refine wa [.int .i64 0, .int .i64 0, .int .i64 0, .int .u8 0, .int .i64 0, .int .i64 0] b3 a6 fun i bb cv (b4 : Kn 61 (K63e1 b f g x_v10 i) ((tP 8 2 0) :: (tA 22 (K63c3 x21)) :: (K63m4 x_v10 a_l l c_l minute)) bb) (ck : Mem ⟨w, h, noX⟩ o (K63e1 b f g x_v10 i) [⟨(K63c2 d), some 24⟩, ⟨(K63c3 x21), none⟩, ⟨[.int .i64 0, .int .i64 0, .int .i64 0, .int .u8 0, .int .i64 0, .int .i64 0], some 24⟩] [] cv) => hK _ _ ?_
     refine wl fun K hK => ?_
     refine wst 2 0 (.agg (K63c3 x21)) (K63c3 x21) b4 ck fun cw b5 (k : Mem ⟨w, h, noX⟩ o (K63e1 b f g x_v10 i) [⟨(K63c2 d), some 24⟩, ⟨(K63c3 x21), none⟩, ⟨(K63c3 x21), some 24⟩] [] cw) => hK _ _ ?_
     have b6 : Kn 61 (K63e1 b f g x_v10 i) ((tP 8 2 0) :: (K63m4 x_v10 a_l l c_l minute)) bb := b5.kp
     refine wf (wp_seq (wp_seq ?_))
     obtain ⟨a8, m, a⟩ := bnd a
     refine wp_mid' (fun a' w' => ∃ (au : Array Value) (af : Heap), a' = ⟨au, []⟩ ∧ Kn 61 (K63e1 b f g x_v10 i) [(tP 8 2 0), (tI 7 x_v10), (tP 4 0 0), (tS 0 a_l l.length c_l), (tI 2 minute), (tB 40 a8)] au ∧ Mem ⟨w, h, noX⟩ af (K63e1 b f g x_v10 i) [⟨(K63c2 d), some 24⟩, ⟨(K63c3 x21), none⟩, ⟨(K63c3 x21), some 24⟩] [] w' ∧ Heap.le o af) ?_ ?_
     ·
      refine wp_region_from (Rk 0 6 ((tB 28 (x21.bus != d.bus)) :: (tP 8 2 0) :: (K63m4 x_v10 a_l l c_l minute)) b6 k fun bc az => ?_)
      rcases Bool.eq_false_or_eq_true ((x21.bus != d.bus)) with x | x
      ·
       rw [x, cond_true] at m
       have b7 : Kn 61 (K63e1 b f g x_v10 i) ((tB 28 true) :: (tP 8 2 0) :: (K63m4 x_v10 a_l l c_l minute)) bc := (az.setB 28 true (by rfl) x).kp
       refine Rk 6 12 ((tB 40 true) :: (tP 8 2 0) :: (K63m4 x_v10 a_l l c_l minute)) b7 k fun dg b8 => ?_
       refine wf ?_
       obtain rfl := Option.some.inj m
       exact Exists.intro _ ⟨_, rfl, b8.kp, k, (Heap.le_refl _)⟩
      ·
       rw [x, cond_false] at m
       have b9 : Kn 61 (K63e1 b f g x_v10 i) ((tB 28 false) :: (tP 8 2 0) :: (K63m4 x_v10 a_l l c_l minute)) bc := (az.setB 28 false (by rfl) x).kp
       refine Rk 6 7 ((tB 35 (decide (x21.minute < d.minute))) :: (tP 8 2 0) :: (K63m4 x_v10 a_l l c_l minute)) b9 k fun bd a0 => ?_
       rcases Bool.eq_false_or_eq_true (decide (x21.minute < d.minute)) with y | y
       ·
        rw [y, cond_true] at m
        have cb : Kn 61 (K63e1 b f g x_v10 i) ((tB 35 true) :: (tP 8 2 0) :: (K63m4 x_v10 a_l l c_l minute)) bd := (a0.setB 35 true (by rfl) y).kp
        refine Rk 13 5 ((tB 40 true) :: (tP 8 2 0) :: (K63m4 x_v10 a_l l c_l minute)) cb k fun dh cc => ?_
        refine wf ?_
        obtain rfl := Option.some.inj m
        exact Exists.intro _ ⟨_, rfl, cc.kp, k, (Heap.le_refl _)⟩
       ·
        rw [y, cond_false] at m
        have cd : Kn 61 (K63e1 b f g x_v10 i) ((tB 35 false) :: (tP 8 2 0) :: (K63m4 x_v10 a_l l c_l minute)) bd := (a0.setB 35 false (by rfl) y).kp
        refine Rk 13 5 ((tB 40 (decide (x21.minute > minute))) :: (tP 8 2 0) :: (K63m4 x_v10 a_l l c_l minute)) cd k fun di ce => ?_
        refine wf ?_
        obtain rfl := Option.some.inj m
        exact Exists.intro _ ⟨_, rfl, ce.kp, k, (Heap.le_refl _)⟩
     ·
      rintro _ dp ⟨au, af, rfl, ao, e, ac⟩
      refine wC (a8) ao (fun ak => ?_) (fun ak => ?_)
      ·
       rw [ak, cond_true] at a
       refine wp_exit (wp_region_from (Rk 0 3 (K63m5 x_v10 a_l l c_l minute) ao e fun dk cf => ?_))
       refine wf ?_
       exact Exists.intro q ⟨Nat.lt_succ_self _, Exists.intro (IntKind.i64.wrap (x_v10 + 1)) ⟨_, _, rfl, ((cf.keep [7, 4, 0, 2] (by rfl)).cut 1 (by kernel_rfl)), (e.cutPl 1 (by kernel_rfl)), (Heap.le_trans p ac), a⟩⟩
      ·
       rw [ak, cond_false] at a
       refine wp_skip (wp_seq (wp_region_from (Rk 0 4 ((tB 44 (x21.kind.n == 2)) :: (tP 8 2 0) :: (K63m4 x_v10 a_l l c_l minute)) ao e fun be a1 => ?_)))
       rcases Bool.eq_false_or_eq_true ((x21.kind.n == 2)) with z | z
       ·
        rw [z, cond_true] at a
        have cg : Kn 61 (K63e1 b f g x_v10 i) ((tB 44 true) :: (tP 8 2 0) :: (K63m4 x_v10 a_l l c_l minute)) be := (a1.setB 44 true (by rfl) z).kp
        refine Rk 4 7 ((tB 51 (x21.sg == d.number)) :: (tP 8 2 0) :: (K63m4 x_v10 a_l l c_l minute)) cg e fun bf a2 => ?_
        rcases Bool.eq_false_or_eq_true ((x21.sg == d.number)) with aa | aa
        ·
         rw [aa, cond_true] at a
         have ch : Kn 61 (K63e1 b f g x_v10 i) ((tB 51 true) :: (tP 8 2 0) :: (K63m4 x_v10 a_l l c_l minute)) bf := (a2.setB 51 true (by rfl) aa).kp
         refine Rk 11 9 ((tB 60 true) :: (K63m4 x_v10 a_l l c_l minute)) ch e fun dl a3 => ?_
         refine wf (wC true a3 (fun hb => ?_) (fun hb => ?_))
         rotate_left
         ·
          cases hb
         refine wp_seq (wp_region_from (Rk 0 1 [(tB 6 false)] a3 e fun dm ci => ?_))
         refine wf (wp_ret ?_)
         obtain rfl := Option.some.inj a
         obtain rfl := Option.some.inj H
         exact rt (.one (.c (.bool false))) ci e rfl
        ·
         rw [aa, cond_false] at a
         have cj : Kn 61 (K63e1 b f g x_v10 i) ((tB 51 false) :: (tP 8 2 0) :: (K63m4 x_v10 a_l l c_l minute)) bf := (a2.setB 51 false (by rfl) aa).kp
         refine Rk 11 4 ((tB 55 (x21.kind.n == 3)) :: (tB 51 false) :: (K63m4 x_v10 a_l l c_l minute)) cj e fun bg a4 => ?_
         rcases Bool.eq_false_or_eq_true ((x21.kind.n == 3)) with ab | ab
         ·
          rw [ab, cond_true] at a
          have bj : Kn 61 (K63e1 b f g x_v10 i) ((tB 55 true) :: (tB 51 false) :: (K63m4 x_v10 a_l l c_l minute)) bg := (a4.setB 55 true (by rfl) ab).kp
          refine Rk 15 5 ((tB 60 (d.kind.n == 0)) :: (K63m4 x_v10 a_l l c_l minute)) bj e fun cz al => ?_
          refine wf (wC ((d.kind.n == 0)) al (fun ah => ?_) (fun ah => ?_))
          ·
           rw [ah, cond_true] at a
           refine wp_seq (wp_region_from (Rk 0 1 [(tB 6 false)] al e fun c0 bk => ?_))
           refine wf (wp_ret ?_)
           obtain rfl := Option.some.inj a
           obtain rfl := Option.some.inj H
           exact rt (.one (.c (.bool false))) bk e rfl
          ·
           rw [ah, cond_false] at a
           refine wp_skip (wp_region_from (Rk 0 3 (K63m5 x_v10 a_l l c_l minute) al e fun c1 bl => ?_))
           refine wf ?_
           exact Exists.intro q ⟨Nat.lt_succ_self _, Exists.intro (IntKind.i64.wrap (x_v10 + 1)) ⟨_, _, rfl, ((bl.keep [7, 4, 0, 2] (by rfl)).cut 1 (by kernel_rfl)), (e.cutPl 1 (by kernel_rfl)), (Heap.le_trans p ac), a⟩⟩
         ·
          rw [ab, cond_false] at a
          have bm : Kn 61 (K63e1 b f g x_v10 i) ((tB 55 false) :: (tB 51 false) :: (K63m4 x_v10 a_l l c_l minute)) bg := (a4.setB 55 false (by rfl) ab).kp
          refine Rk 15 5 ((tB 60 false) :: (K63m4 x_v10 a_l l c_l minute)) bm e fun c2 aw => ?_
          refine wf (wC false aw (fun hb => ?_) (fun hb => ?_))
          ·
           cases hb
          refine wp_skip (wp_region_from (Rk 0 3 (K63m5 x_v10 a_l l c_l minute) aw e fun c4 bn => ?_))
          refine wf ?_
          exact Exists.intro q ⟨Nat.lt_succ_self _, Exists.intro (IntKind.i64.wrap (x_v10 + 1)) ⟨_, _, rfl, ((bn.keep [7, 4, 0, 2] (by rfl)).cut 1 (by kernel_rfl)), (e.cutPl 1 (by kernel_rfl)), (Heap.le_trans p ac), a⟩⟩
       ·
        rw [z, cond_false] at a
        have bo : Kn 61 (K63e1 b f g x_v10 i) ((tB 44 false) :: (tP 8 2 0) :: (K63m4 x_v10 a_l l c_l minute)) be := (a1.setB 44 false (by rfl) z).kp
        refine Rk 4 11 ((tB 55 (x21.kind.n == 3)) :: (tB 51 false) :: (K63m4 x_v10 a_l l c_l minute)) bo e fun ba ax => ?_
        rcases Bool.eq_false_or_eq_true ((x21.kind.n == 3)) with u | u
        ·
         rw [u, cond_true] at a
         have bp : Kn 61 (K63e1 b f g x_v10 i) ((tB 55 true) :: (tB 51 false) :: (K63m4 x_v10 a_l l c_l minute)) ba := (ax.setB 55 true (by rfl) u).kp
         refine Rk 15 5 ((tB 60 (d.kind.n == 0)) :: (K63m4 x_v10 a_l l c_l minute)) bp e fun c5 am => ?_
         refine wf (wC ((d.kind.n == 0)) am (fun ai => ?_) (fun ai => ?_))
         ·
          rw [ai, cond_true] at a
          refine wp_seq (wp_region_from (Rk 0 1 [(tB 6 false)] am e fun c6 br => ?_))
          refine wf (wp_ret ?_)
          obtain rfl := Option.some.inj a
          obtain rfl := Option.some.inj H
          exact rt (.one (.c (.bool false))) br e rfl
         ·
          rw [ai, cond_false] at a
          refine wp_skip (wp_region_from (Rk 0 3 (K63m5 x_v10 a_l l c_l minute) am e fun c7 bs => ?_))
          refine wf ?_
          exact Exists.intro q ⟨Nat.lt_succ_self _, Exists.intro (IntKind.i64.wrap (x_v10 + 1)) ⟨_, _, rfl, ((bs.keep [7, 4, 0, 2] (by rfl)).cut 1 (by kernel_rfl)), (e.cutPl 1 (by kernel_rfl)), (Heap.le_trans p ac), a⟩⟩
        ·
         rw [u, cond_false] at a
         have bt : Kn 61 (K63e1 b f g x_v10 i) ((tB 55 false) :: (tB 51 false) :: (K63m4 x_v10 a_l l c_l minute)) ba := (ax.setB 55 false (by rfl) u).kp
         refine Rk 15 5 ((tB 60 false) :: (K63m4 x_v10 a_l l c_l minute)) bt e fun c8 ay => ?_
         refine wf (wC false ay (fun hb => ?_) (fun hb => ?_))
         ·
          cases hb
         refine wp_skip (wp_region_from (Rk 0 3 (K63m5 x_v10 a_l l c_l minute) ay e fun c9 bu => ?_))
         refine wf ?_
         exact Exists.intro q ⟨Nat.lt_succ_self _, Exists.intro (IntKind.i64.wrap (x_v10 + 1)) ⟨_, _, rfl, ((bu.keep [7, 4, 0, 2] (by rfl)).cut 1 (by kernel_rfl)), (e.cutPl 1 (by kernel_rfl)), (Heap.le_trans p ac), a⟩⟩
    ·
     rw [aj, cond_false] at a
     refine wp_exit ?_
     obtain rfl := Option.some.inj a
     exact Exists.intro () ⟨_, _, rfl, an.kp, ad, p, rfl⟩
  ·
   rintro _ dn ⟨a9, aq, ae, rfl, bv, a5, cy, rfl⟩
   rw [Ex.bind_go] at H
   refine wp_seq (wp_region_from (Rk 0 1 [(tB 6 true)] bv a5 fun db bw => ?_))
   refine wf (wp_ret ?_)
   obtain rfl := Option.some.inj H
   exact rt (.one (.c (.bool true))) bw a5 rfl
abbrev K72e1 (b d e : Nat) (x_v10 : Int) (f : Nat) : Env := [(b, 0), (d, e + (x_v10 : Int).toNat * 6), (f, 0)]
abbrev K72c2 (c : Card) : List SC := [.int .i64 c.bus, .int .i64 c.number, .int .i64 c.minute, .int .u8 c.kind.n, .int .i64 c.part, .int .i64 c.sg]
abbrev K72c3 (x15 : Card) : List SC := [.int .i64 x15.bus, .int .i64 x15.number, .int .i64 x15.minute, .int .u8 x15.kind.n, .int .i64 x15.part, .int .i64 x15.sg]
abbrev K72m4 (x_v10 : Int) (a_l : Option Addr) (l : List Card) (c_l : Nat) : TM := [(tI 5 x_v10), (tP 3 0 0), (tS 0 a_l l.length c_l)]
set_option maxRecDepth 100000 in
set_option maxHeartbeats 4000000 in
theorem ref_IsVoid_ok (n : Nat) {h : Heap} {w : World} (hh : Has h w) (l : List Card) {a_l : Option Addr} {c_l : Nat} (hr_l : RepS h a_l c_l l) (c : Card) {cs_c : List Value} (hx_c : rep h c cs_c) {r : Bool} (H : ref_IsVoid n l c = some r) :
  Calls Try.prog 72 #[.slice a_l l.length c_l, .agg cs_c.toArray] w (Ret (fun h v => v = .bool r) h w) := by
 obtain ⟨_, _, rfl, rfl, ⟨_, _, rfl, rfl, ⟨_, _, rfl, rfl, ⟨_, _, rfl, rfl, ⟨_, _, rfl, rfl, rfl⟩⟩⟩⟩⟩ := hx_c
 refine enter 40 [.c (.slice a_l l.length c_l), .agg (K72c2 c)] Try.func72 rfl rfl rfl rfl fun t hk => ?_
 have hm := Mem.begin h w hh
 unfold ref_IsVoid at H
 refine wp_seq (wp_region_from (wl fun K hK => ?_))
 refine wb (.agg (K72c2 c)) hk hm fun b bv b0 (a4 : Kn 40 [(b, 0)] [(tP 3 0 0), (tS 0 a_l l.length c_l), (tA 1 (K72c2 c))] bv) (ad : Mem ⟨w, h, noX⟩ h [(b, 0)] [⟨(K72c2 c), some 24⟩] [] b0) => hK _ _ ?_
 refine Rk 1 1 [(tP 3 0 0), (tS 0 a_l l.length c_l)] a4 ad fun cb bc => ?_
 refine wf (wp_seq (wp_seq (wp_region_from (Rk 0 1 [(tI 5 0), (tP 3 0 0), (tS 0 a_l l.length c_l)] bc ad fun ce bk => ?_))))
 refine wf ?_
 obtain ⟨aq, ag, H⟩ := bnd H
 refine wp_mid' (fun a' w' => ∃ (ar : Unit) (ae : Array Value) (x : Heap), a' = ⟨ae, []⟩ ∧ Kn 40 [(b, 0)] [] ae ∧ Mem ⟨w, h, noX⟩ x [(b, 0)] [⟨(K72c2 c), some 24⟩] [] w' ∧ Heap.le h x ∧ aq = .go ar) ?_ ?_
 ·
  refine wp_block ?_
  refine wp_loop_n (fun bu a' w' => ∃ (x_v10 : Int) (af : Array Value) (i : Heap), a' = ⟨af, []⟩ ∧ Kn 40 [(b, 0)] (K72m4 x_v10 a_l l c_l) af ∧ Mem ⟨w, h, noX⟩ i [(b, 0)] [⟨(K72c2 c), some 24⟩] [] w' ∧ Heap.le h i ∧ ref_IsVoid_l1 bu l c x_v10 = some aq) n ?_ ?_
  ·
   exact Exists.intro 0 ⟨_, _, rfl, bk.kp, ad, (Heap.le_refl _), ag⟩
  ·
   rintro m _ bz ⟨x_v10, af, i, rfl, a2, u, o, a⟩
   clear ag
   obtain _ | m := m
   ·
    rw [ref_IsVoid_l1] at a; cases a
   rw [ref_IsVoid_l1] at a
   replace hr_l := hr_l.mono o
   refine wp_seq (wp_seq (wp_region_from (Rk 0 4 ((tB 10 (decide (x_v10 < ((l.length : Nat) : Int)))) :: (K72m4 x_v10 a_l l c_l)) a2 u fun b7 aa => ?_)))
   refine wf (wC (decide (x_v10 < ((l.length : Nat) : Int))) aa (fun y => ?_) (fun y => ?_))
   ·
    rw [y, cond_true] at a
    refine wp_skip (wp_seq (wp_block (wp_seq (wp_region_from (Rk 0 2 ((tI 14 x_v10) :: (tS 13 a_l l.length c_l) :: (K72m4 x_v10 a_l l c_l)) aa u fun b8 a3 => ?_)))))
    obtain ⟨x15, ex15, a⟩ := bnd a
    obtain ⟨bq, br, bt⟩ := idx_some ex15
    obtain ⟨d, e, b3, az, bs, a0⟩ := hr_l.get (by decide) bt
    obtain ⟨_, _, rfl, rfl, ⟨_, _, rfl, rfl, ⟨_, _, rfl, rfl, ⟨_, _, rfl, rfl, ⟨_, _, rfl, rfl, rfl⟩⟩⟩⟩⟩ := bs
    have ao : Mem ⟨w, h, noX⟩ i [(b, 0), (d, e + (x_v10 : Int).toNat * 6)] [⟨(K72c2 c), some 24⟩, ⟨(K72c3 x15), none⟩] [] bz := u.addPlc (cs := (K72c3 x15)) (fun j c hj => a0 j _ (map_get hj)) rfl (by kernel_rfl) (by kernel_rfl)
    refine R_index 2 (x_v10) rfl rfl (rfl) rfl (by decide) a3 (by rfl) (by rfl) (by rfl) az (by rfl) bq br (by kernel_rfl) fun bw (a5 : Kn 40 [(b, 0), (d, e + (x_v10 : Int).toNat * 6)] ((tP 15 1 0) :: (tI 14 x_v10) :: (tS 13 a_l l.length c_l) :: (K72m4 x_v10 a_l l c_l)) bw) => ?_
    refine Rk 3 1 ((tA 16 (K72c3 x15)) :: (K72m4 x_v10 a_l l c_l)) a5 ao fun b9 a6 => ?_
    refine wl fun K hK => ?_
    refine wa [.int .i64 0, .int .i64 0, .int .i64 0, .int .u8 0, .int .i64 0, .int .i64 0] a6 ao fun f au b1 (a7 : Kn 40 (K72e1 b d e x_v10 f) ((tP 6 2 0) :: (tA 16 (K72c3 x15)) :: (K72m4 x_v10 a_l l c_l)) au) (bp : Mem ⟨w, h, noX⟩ i (K72e1 b d e x_v10 f) [⟨(K72c2 c), some 24⟩, ⟨(K72c3 x15), none⟩, ⟨[.int .i64 0, .int .i64 0, .int .i64 0, .int .u8 0, .int .i64 0, .int .i64 0], some 24⟩] [] b1) => hK _ _ ?_
    refine wl fun K hK => ?_
    refine wst 2 0 (.agg (K72c3 x15)) (K72c3 x15) a7 bp fun b2 a8 (k : Mem ⟨w, h, noX⟩ i (K72e1 b d e x_v10 f) [⟨(K72c2 c), some 24⟩, ⟨(K72c3 x15), none⟩, ⟨(K72c3 x15), some 24⟩] [] b2) => hK _ _ ?_
    have a9 : Kn 40 (K72e1 b d e x_v10 f) ((tP 6 2 0) :: (K72m4 x_v10 a_l l c_l)) au := a8.kp
    refine wf (wp_seq (wp_region_from (Rk 0 6 ((tB 22 (x15.number == c.sg)) :: (tP 6 2 0) :: (K72m4 x_v10 a_l l c_l)) a9 k fun av ah => ?_)))
    rcases Bool.eq_false_or_eq_true ((x15.number == c.sg)) with p | p
    ·
     rw [p, cond_true] at a
     have ba : Kn 40 (K72e1 b d e x_v10 f) ((tB 22 true) :: (tP 6 2 0) :: (K72m4 x_v10 a_l l c_l)) av := (ah.setB 22 true (by rfl) p).kp
     refine Rk 6 1 ((tA 23 (K72c3 x15)) :: (tB 22 true) :: (tP 6 2 0) :: (K72m4 x_v10 a_l l c_l)) ba k fun ca ai => ?_
     obtain ⟨x24, ex24, a⟩ := bnd a
     refine wpFrom_loud _ rfl (wantedS_sound ai (by kernel_rfl)) fun K hK => ?_
     refine wc [.agg (K72c3 x15)] ai k (ref_Defect_ok m k.has x15 ((rep_pair rep_int (rep_pair rep_int (rep_pair rep_int (rep_pair rep_ik (rep_pair rep_int rep_int))))) : rep i x15 _) ex24) fun cm b4 cn ay ac g => ?_
     obtain rfl := ay
     refine ⟨.one (.c (.bool x24)), rfl, fun bx (bb : Kn 40 (K72e1 b d e x_v10 f) ((tB 24 x24) :: (tA 23 (K72c3 x15)) :: (tB 22 true) :: (tP 6 2 0) :: (K72m4 x_v10 a_l l c_l)) bx) => hK _ _ ?_⟩
     refine Rk 8 2 ((tB 26 x24) :: (tP 6 2 0) :: (K72m4 x_v10 a_l l c_l)) bb g fun aw aj => ?_
     rcases Bool.eq_false_or_eq_true (x24) with q | q
     ·
      rw [q, cond_true] at a
      have bd : Kn 40 (K72e1 b d e x_v10 f) ((tB 26 true) :: (tP 6 2 0) :: (K72m4 x_v10 a_l l c_l)) aw := (aj.setB 26 true (by rfl) q).kp
      refine Rk 10 7 ((tB 33 (x15.bus == c.bus)) :: (tP 6 2 0) :: (K72m4 x_v10 a_l l c_l)) bd g fun ax ak => ?_
      rcases Bool.eq_false_or_eq_true ((x15.bus == c.bus)) with s | s
      ·
       rw [s, cond_true] at a
       have be : Kn 40 (K72e1 b d e x_v10 f) ((tB 33 true) :: (tP 6 2 0) :: (K72m4 x_v10 a_l l c_l)) ax := (ak.setB 33 true (by rfl) s).kp
       refine Rk 17 6 ((tB 39 (decide (x15.minute ≤ c.minute))) :: (K72m4 x_v10 a_l l c_l)) be g fun cc ab => ?_
       refine wf (wC (decide (x15.minute ≤ c.minute)) ab (fun z => ?_) (fun z => ?_))
       ·
        rw [z, cond_true] at a
        refine wp_seq (wp_region_from (Rk 0 1 [(tB 4 false)] ab g fun cd bf => ?_))
        refine wf (wp_ret ?_)
        obtain rfl := Option.some.inj a
        obtain rfl := Option.some.inj H
        exact rt (.one (.c (.bool false))) bf g rfl
       ·
        rw [z, cond_false] at a
        refine wp_skip (wp_region_from (Rk 0 3 [(tI 5 (IntKind.i64.wrap (x_v10 + 1))), (tP 3 0 0), (tS 0 a_l l.length c_l)] ab g fun cf bg => ?_))
        refine wf ?_
        exact Exists.intro m ⟨Nat.lt_succ_self _, Exists.intro (IntKind.i64.wrap (x_v10 + 1)) ⟨_, _, rfl, ((bg.keep [5, 3, 0] (by rfl)).cut 1 (by kernel_rfl)), (g.cutPl 1 (by kernel_rfl)), (Heap.le_trans o ac), a⟩⟩
      ·
       rw [s, cond_false] at a
       have bh : Kn 40 (K72e1 b d e x_v10 f) ((tB 33 false) :: (tP 6 2 0) :: (K72m4 x_v10 a_l l c_l)) ax := (ak.setB 33 false (by rfl) s).kp
       refine Rk 17 6 ((tB 39 false) :: (K72m4 x_v10 a_l l c_l)) bh g fun cg al => ?_
       refine wf (wC false al (fun hb => ?_) (fun hb => ?_))
       ·
        cases hb
       refine wp_skip (wp_region_from (Rk 0 3 [(tI 5 (IntKind.i64.wrap (x_v10 + 1))), (tP 3 0 0), (tS 0 a_l l.length c_l)] al g fun ch bi => ?_))
       refine wf ?_
       exact Exists.intro m ⟨Nat.lt_succ_self _, Exists.intro (IntKind.i64.wrap (x_v10 + 1)) ⟨_, _, rfl, ((bi.keep [5, 3, 0] (by rfl)).cut 1 (by kernel_rfl)), (g.cutPl 1 (by kernel_rfl)), (Heap.le_trans o ac), a⟩⟩
     ·
      rw [q, cond_false] at a
      have bj : Kn 40 (K72e1 b d e x_v10 f) ((tB 26 false) :: (tP 6 2 0) :: (K72m4 x_v10 a_l l c_l)) aw := (aj.setB 26 false (by rfl) q).kp
      refine Rk 10 13 ((tB 39 false) :: (K72m4 x_v10 a_l l c_l)) bj g fun ci am => ?_
      refine wf (wC false am (fun hb => ?_) (fun hb => ?_))
      ·
       cases hb
      refine wp_skip (wp_region_from (Rk 0 3 [(tI 5 (IntKind.i64.wrap (x_v10 + 1))), (tP 3 0 0), (tS 0 a_l l.length c_l)] am g fun cj bl => ?_))
      refine wf ?_
      exact Exists.intro m ⟨Nat.lt_succ_self _, Exists.intro (IntKind.i64.wrap (x_v10 + 1)) ⟨_, _, rfl, ((bl.keep [5, 3, 0] (by rfl)).cut 1 (by kernel_rfl)), (g.cutPl 1 (by kernel_rfl)), (Heap.le_trans o ac), a⟩⟩
    ·
     rw [p, cond_false] at a
     have bm : Kn 40 (K72e1 b d e x_v10 f) ((tB 22 false) :: (tP 6 2 0) :: (K72m4 x_v10 a_l l c_l)) av := (ah.setB 22 false (by rfl) p).kp
     refine Rk 6 17 ((tB 39 false) :: (K72m4 x_v10 a_l l c_l)) bm k fun ck an => ?_
     refine wf (wC false an (fun hb => ?_) (fun hb => ?_))
     ·
      cases hb
     refine wp_skip (wp_region_from (Rk 0 3 [(tI 5 (IntKind.i64.wrap (x_v10 + 1))), (tP 3 0 0), (tS 0 a_l l.length c_l)] an k fun cl bn => ?_))
     refine wf ?_
     exact Exists.intro m ⟨Nat.lt_succ_self _, Exists.intro (IntKind.i64.wrap (x_v10 + 1)) ⟨_, _, rfl, ((bn.keep [5, 3, 0] (by rfl)).cut 1 (by kernel_rfl)), (k.cutPl 1 (by kernel_rfl)), o, a⟩⟩
   ·
    rw [y, cond_false] at a
    refine wp_exit ?_
    obtain rfl := Option.some.inj a
    exact Exists.intro () ⟨_, _, rfl, aa.kp, u, o, rfl⟩
 ·
  rintro _ co ⟨ar, ae, x, rfl, bo, ap, b5, rfl⟩
  rw [Ex.bind_go] at H
  refine wp_seq (wp_region_from (Rk 0 1 [(tB 4 true)] bo ap fun b6 a1 => ?_))
  refine wf (wp_ret ?_)
  obtain rfl := Option.some.inj H
  exact rt (.one (.c (.bool true))) a1 ap rfl
abbrev K38c1 (x21 : Card) : List SC := [.int .i64 x21.bus, .int .i64 x21.number, .int .i64 x21.minute, .int .u8 x21.kind.n, .int .i64 x21.part, .int .i64 x21.sg]
abbrev K38c2 (x29 : Card) : List SC := [.int .i64 x29.bus, .int .i64 x29.number, .int .i64 x29.minute, .int .u8 x29.kind.n, .int .i64 x29.part, .int .i64 x29.sg]
abbrev K38c3 (x38 : Card) : List SC := [.int .i64 x38.bus, .int .i64 x38.number, .int .i64 x38.minute, .int .u8 x38.kind.n, .int .i64 x38.part, .int .i64 x38.sg]
abbrev K38m4 (x_v11 : Int) (b : Option Addr) (x_v10 : List Int) (d : Nat) (a_l : Option Addr) (l : List Card) (c_l : Nat) : TM := [(tI 4 x_v11), (tS 3 b x_v10.length d), (tS 0 a_l l.length c_l)]
abbrev K38m5 (x_v20 x_v11 : Int) (b : Option Addr) (x_v10 : List Int) (d : Nat) (a_l : Option Addr) (l : List Card) (c_l : Nat) : TM := (tB 18 false) :: (tI 6 x_v20) :: (K38m4 x_v11 b x_v10 d a_l l c_l)
set_option maxRecDepth 100000 in
set_option maxHeartbeats 4000000 in
theorem ref_Void_ok (n : Nat) {h : Heap} {w : World} (hh : Has h w) (l : List Card) {a_l : Option Addr} {c_l : Nat} (hr_l : RepS h a_l c_l l) {r : List Int} (H : ref_Void n l = some r) :
  Calls Try.prog 38 #[.slice a_l l.length c_l] w (Ret (fun h v => ∃ a c, v = .slice a r.length c ∧ RepS h a c r) h w) := by
 refine enter 49 [.c (.slice a_l l.length c_l)] Try.func38 rfl rfl rfl rfl fun t hk => ?_
 have hm := Mem.begin h w hh
 unfold ref_Void at H
 refine wp_seq (wp_region_from (Rk 0 1 [(tS 0 a_l l.length c_l)] hk hm fun d5 cq => ?_))
 refine wf (wp_seq (wp_region_from (Rk 0 1 [(tS 3 none 0 0), (tS 0 a_l l.length c_l)] cq hm fun ek cv => ?_)))
 refine wf (wp_seq (wp_seq (wp_region_from (Rk 0 1 [(tI 4 1), (tS 3 none 0 0), (tS 0 a_l l.length c_l)] cv hm fun eo cy => ?_))))
 refine wf ?_
 have c9 : Mem ⟨w, h, noX⟩ h [] [] [⟨none, 0, 0, 3, 1, [], 0⟩] w := hm.nilRow 3 1
 have b4 : Cells h ([] : List Int) [] := Cells.nil
 obtain ⟨q, bh, H⟩ := bnd H
 refine wp_mid' (fun a' w' => ∃ (s : Option Addr) (x : Nat) (ao : List Value) (bc : Array Value) (aq : Heap), a' = ⟨bc, []⟩ ∧ Kn 49 [] [(tS 3 s q.length x)] bc ∧ Mem ⟨w, h, noX⟩ aq [] [] [⟨s, q.length, x, 3, 1, ao, 0⟩] w' ∧ Heap.le h aq ∧ Cells aq q ao) ?_ ?_
 ·
  refine wp_block ?_
  refine wp_loop_n (fun dp a' w' => ∃ (x_v10 : List Int) (x_v11 : Int) (b : Option Addr) (d : Nat) (g : List Value) (bd : Array Value) (ad : Heap), a' = ⟨bd, []⟩ ∧ Kn 49 [] (K38m4 x_v11 b x_v10 d a_l l c_l) bd ∧ Mem ⟨w, h, noX⟩ ad [] [] [⟨b, x_v10.length, d, 3, 1, g, 0⟩] w' ∧ Heap.le h ad ∧ Cells ad x_v10 g ∧ ref_Void_l1 dp l x_v10 x_v11 = some q) n ?_ ?_
  ·
   exact Exists.intro ([] : List Int) ⟨1, none, 0, ([]), _, _, rfl, cy.kp, c9, (Heap.le_refl _), b4, bh⟩
  ·
   rintro an _ ey ⟨x_v10, x_v11, b, d, g, bd, ad, rfl, cr, am, ar, z, f⟩
   clear bh
   obtain _ | an := an
   ·
    rw [ref_Void_l1] at f; cases f
   rw [ref_Void_l1] at f
   replace hr_l := hr_l.mono ar
   refine wp_seq (wp_seq (wp_region_from (Rk 0 2 ((tB 8 (decide (x_v11 ≤ 999))) :: (K38m4 x_v11 b x_v10 d a_l l c_l)) cr am fun el a2 => ?_)))
   refine wf (wC (decide (x_v11 ≤ 999)) a2 (fun ax => ?_) (fun ax => ?_))
   ·
    rw [ax, cond_true] at f
    refine wp_skip (wp_seq (wp_block (wp_seq (wp_region_from (Rk 0 1 ((tB 5 false) :: (K38m4 x_v11 b x_v10 d a_l l c_l)) a2 am fun em ct => ?_)))))
    refine wf (wp_seq (wp_seq (wp_region_from (Rk 0 1 ((tI 6 0) :: (tB 5 false) :: (K38m4 x_v11 b x_v10 d a_l l c_l)) ct am fun en cu => ?_))))
    refine wf ?_
    obtain ⟨au, bi, f⟩ := bnd f
    refine wp_mid' (fun a' w' => ∃ (be : Array Value) (o : Heap), a' = ⟨be, []⟩ ∧ Kn 49 [] ((tB 5 au) :: (K38m4 x_v11 b x_v10 d a_l l c_l)) be ∧ Mem ⟨w, h, noX⟩ o [] [] [⟨b, x_v10.length, d, 3, 1, g, 0⟩] w' ∧ Heap.le ad o) ?_ ?_
    ·
     refine wp_block ?_
     refine wp_loop_n (fun dq a' w' => ∃ (x_v20 : Int) (x_v21 : Bool) (bf : Array Value) (y : Heap), a' = ⟨bf, []⟩ ∧ Kn 49 [] ((tI 6 x_v20) :: (tB 5 x_v21) :: (K38m4 x_v11 b x_v10 d a_l l c_l)) bf ∧ Mem ⟨w, h, noX⟩ y [] [] [⟨b, x_v10.length, d, 3, 1, g, 0⟩] w' ∧ Heap.le ad y ∧ ref_Void_l2 dq l x_v11 x_v20 x_v21 = some au) an ?_ ?_
     ·
      exact Exists.intro 0 ⟨false, _, _, rfl, cu.kp, am, (Heap.le_refl _), bi⟩
     ·
      rintro ab _ bg ⟨x_v20, x_v21, bf, y, rfl, cw, p, aa, e⟩
      clear bi
      obtain _ | ab := ab
      ·
       rw [ref_Void_l2] at e; cases e
      rw [ref_Void_l2] at e
      replace hr_l := hr_l.mono aa
      replace z := z.mono aa
      refine wp_seq (wp_seq (wp_region_from (Rk 0 4 ((tB 14 (decide (x_v20 < ((l.length : Nat) : Int)))) :: (tI 6 x_v20) :: (tB 5 x_v21) :: (K38m4 x_v11 b x_v10 d a_l l c_l)) cw p fun ep a3 => ?_)))
      refine wf (wC (decide (x_v20 < ((l.length : Nat) : Int))) a3 (fun ay => ?_) (fun ay => ?_))
      ·
       rw [ay, cond_true] at e
       refine wp_skip (wp_seq (wp_block (wp_region_from (Rk 0 2 ((tB 18 x_v21) :: (tI 6 x_v20) :: (K38m4 x_v11 b x_v10 d a_l l c_l)) a3 p fun bt bn => ?_))))
       rcases Bool.eq_false_or_eq_true (x_v21) with ai | ai
       ·
        rw [ai, cond_true] at e
        have cx : Kn 49 [] ((tB 18 true) :: (tI 6 x_v20) :: (K38m4 x_v11 b x_v10 d a_l l c_l)) bt := (bn.setB 18 true (by rfl) ai).kp
        refine Rk 2 25 ((tB 5 true) :: (tI 6 x_v20) :: (K38m4 x_v11 b x_v10 d a_l l c_l)) cx p fun er cz => ?_
        refine wf (wp_region_from (Rk 0 3 ((tI 6 (IntKind.i64.wrap (x_v20 + 1))) :: (tB 5 true) :: (K38m4 x_v11 b x_v10 d a_l l c_l)) cz p fun es c0 => ?_))
        refine wf ?_
        exact Exists.intro ab ⟨Nat.lt_succ_self _, Exists.intro (IntKind.i64.wrap (x_v20 + 1)) ⟨true, _, _, rfl, c0.kp, p, aa, e⟩⟩
       ·
        rw [ai, cond_false] at e
        have c1 : Kn 49 [] (K38m5 x_v20 x_v11 b x_v10 d a_l l c_l) bt := (bn.setB 18 false (by rfl) ai).kp
        refine Rk 2 2 ((tI 20 x_v20) :: (tS 19 a_l l.length c_l) :: (K38m5 x_v20 x_v11 b x_v10 d a_l l c_l)) c1 p fun et bo => ?_
        obtain ⟨x21, ex21, e⟩ := bnd e
        obtain ⟨db, de, dm⟩ := idx_some ex21
        obtain ⟨k, m, d1, bz, dj, b3⟩ := hr_l.get (by decide) dm
        obtain ⟨_, _, rfl, rfl, ⟨_, _, rfl, rfl, ⟨_, _, rfl, rfl, ⟨_, _, rfl, rfl, ⟨_, _, rfl, rfl, rfl⟩⟩⟩⟩⟩ := dj
        have ae : Mem ⟨w, h, noX⟩ y [(k, m + (x_v20 : Int).toNat * 6)] [⟨(K38c1 x21), none⟩] [⟨b, x_v10.length, d, 3, 1, g, 0⟩] bg := p.addPlc (cs := (K38c1 x21)) (fun j c hj => b3 j _ (map_get hj)) rfl (by kernel_rfl) (by kernel_rfl)
        refine R_index 4 (x_v20) rfl rfl (wantedS_sound bo (by kernel_rfl)) rfl (by decide) bo (by rfl) (by rfl) (by rfl) bz (by rfl) db de (by kernel_rfl) fun dv (c2 : Kn 49 [(k, m + (x_v20 : Int).toNat * 6)] ((tP 21 0 0) :: (tI 20 x_v20) :: (tS 19 a_l l.length c_l) :: (K38m5 x_v20 x_v11 b x_v10 d a_l l c_l)) dv) => ?_
        refine Rk 5 5 ((tB 26 (x21.number == x_v11)) :: (K38m5 x_v20 x_v11 b x_v10 d a_l l c_l)) c2 ae fun bu bp => ?_
        rcases Bool.eq_false_or_eq_true ((x21.number == x_v11)) with aj | aj
        ·
         rw [aj, cond_true] at e
         have c3 : Kn 49 [(k, m + (x_v20 : Int).toNat * 6)] ((tB 26 true) :: (K38m5 x_v20 x_v11 b x_v10 d a_l l c_l)) bu := (bp.setB 26 true (by rfl) aj).kp
         refine Rk 10 2 ((tI 28 x_v20) :: (tS 27 a_l l.length c_l) :: (tB 26 true) :: (K38m5 x_v20 x_v11 b x_v10 d a_l l c_l)) c3 ae fun eu bq => ?_
         obtain ⟨x29, ex29, e⟩ := bnd e
         obtain ⟨dc, df, dn⟩ := idx_some ex29
         obtain ⟨u, ac, d2, b0, dk, b5⟩ := hr_l.get (by decide) dn
         obtain ⟨_, _, rfl, rfl, ⟨_, _, rfl, rfl, ⟨_, _, rfl, rfl, ⟨_, _, rfl, rfl, ⟨_, _, rfl, rfl, rfl⟩⟩⟩⟩⟩ := dk
         have af : Mem ⟨w, h, noX⟩ y [(k, m + (x_v20 : Int).toNat * 6), (u, ac + (x_v20 : Int).toNat * 6)] [⟨(K38c1 x21), none⟩, ⟨(K38c2 x29), none⟩] [⟨b, x_v10.length, d, 3, 1, g, 0⟩] bg := ae.addPlc (cs := (K38c2 x29)) (fun j c hj => b5 j _ (map_get hj)) rfl (by kernel_rfl) (by kernel_rfl)
         refine R_index 12 (x_v20) rfl rfl (wantedS_sound bq (by kernel_rfl)) rfl (by decide) bq (by rfl) (by rfl) (by rfl) b0 (by rfl) dc df (by kernel_rfl) fun dw (c4 : Kn 49 [(k, m + (x_v20 : Int).toNat * 6), (u, ac + (x_v20 : Int).toNat * 6)] ((tP 29 1 0) :: (tI 28 x_v20) :: (tS 27 a_l l.length c_l) :: (tB 26 true) :: (K38m5 x_v20 x_v11 b x_v10 d a_l l c_l)) dw) => ?_
         refine Rk 13 5 ((tB 34 (x29.kind.n == 2)) :: (K38m5 x_v20 x_v11 b x_v10 d a_l l c_l)) c4 af fun bv br => ?_
         rcases Bool.eq_false_or_eq_true ((x29.kind.n == 2)) with ak | ak
         ·
          rw [ak, cond_true] at e
          have c5 : Kn 49 [(k, m + (x_v20 : Int).toNat * 6), (u, ac + (x_v20 : Int).toNat * 6)] ((tB 34 true) :: (K38m5 x_v20 x_v11 b x_v10 d a_l l c_l)) bv := (br.setB 34 true (by rfl) ak).kp
          refine Rk 18 3 ((tI 37 x_v20) :: (tS 36 a_l l.length c_l) :: (tS 35 a_l l.length c_l) :: (tB 34 true) :: (K38m5 x_v20 x_v11 b x_v10 d a_l l c_l)) c5 af fun d6 bl => ?_
          obtain ⟨x38, ex38, e⟩ := bnd e
          obtain ⟨da, dd, dl⟩ := idx_some ex38
          obtain ⟨av, bb, d0, bx, di, b1⟩ := hr_l.get (by decide) dl
          obtain ⟨_, _, rfl, rfl, ⟨_, _, rfl, rfl, ⟨_, _, rfl, rfl, ⟨_, _, rfl, rfl, ⟨_, _, rfl, rfl, rfl⟩⟩⟩⟩⟩ := di
          have a5 : Mem ⟨w, h, noX⟩ y [(k, m + (x_v20 : Int).toNat * 6), (u, ac + (x_v20 : Int).toNat * 6), (av, bb + (x_v20 : Int).toNat * 6)] [⟨(K38c1 x21), none⟩, ⟨(K38c2 x29), none⟩, ⟨(K38c3 x38), none⟩] [⟨b, x_v10.length, d, 3, 1, g, 0⟩] bg := af.addPlc (cs := (K38c3 x38)) (fun j c hj => b1 j _ (map_get hj)) rfl (by kernel_rfl) (by kernel_rfl)
          refine R_index 21 (x_v20) rfl rfl (wantedS_sound bl (by kernel_rfl)) rfl (by decide) bl (by rfl) (by rfl) (by rfl) bx (by rfl) da dd (by kernel_rfl) fun dr (b7 : Kn 49 [(k, m + (x_v20 : Int).toNat * 6), (u, ac + (x_v20 : Int).toNat * 6), (av, bb + (x_v20 : Int).toNat * 6)] ((tP 38 2 0) :: (tI 37 x_v20) :: (tS 36 a_l l.length c_l) :: (tS 35 a_l l.length c_l) :: (tB 34 true) :: (K38m5 x_v20 x_v11 b x_v10 d a_l l c_l)) dr) => ?_
          refine Rk 22 1 ((tA 39 (K38c3 x38)) :: (tS 35 a_l l.length c_l) :: (tB 34 true) :: (K38m5 x_v20 x_v11 b x_v10 d a_l l c_l)) b7 a5 fun d7 bm => ?_
          obtain ⟨x40, ex40, e⟩ := bnd e
          refine wpFrom_loud _ rfl (wantedS_sound bm (by kernel_rfl)) fun K hK => ?_
          refine wc [.c (.slice a_l l.length c_l), .agg (K38c3 x38)] bm a5 (ref_IsVoid_ok ab a5.has l hr_l x38 ((rep_pair rep_int (rep_pair rep_int (rep_pair rep_int (rep_pair rep_ik (rep_pair rep_int rep_int))))) : rep y x38 _) ex40) fun ev d3 ew bw c7 a6 => ?_
          obtain rfl := bw
          refine ⟨.one (.c (.bool x40)), rfl, fun ds (b8 : Kn 49 [(k, m + (x_v20 : Int).toNat * 6), (u, ac + (x_v20 : Int).toNat * 6), (av, bb + (x_v20 : Int).toNat * 6)] ((tB 40 x40) :: (tA 39 (K38c3 x38)) :: (tS 35 a_l l.length c_l) :: (tB 34 true) :: (K38m5 x_v20 x_v11 b x_v10 d a_l l c_l)) ds) => hK _ _ ?_⟩
          refine Rk 24 3 ((tB 5 x40) :: (tI 6 x_v20) :: (K38m4 x_v11 b x_v10 d a_l l c_l)) b8 a6 fun d8 b9 => ?_
          refine wf (wp_region_from (Rk 0 3 ((tI 6 (IntKind.i64.wrap (x_v20 + 1))) :: (tB 5 x40) :: (K38m4 x_v11 b x_v10 d a_l l c_l)) b9 a6 fun d9 ca => ?_))
          refine wf ?_
          exact Exists.intro ab ⟨Nat.lt_succ_self _, Exists.intro (IntKind.i64.wrap (x_v20 + 1)) ⟨x40, _, _, rfl, ((ca.keep [6, 5, 4, 3, 0] (by rfl)).cut 0 (by kernel_rfl)), (a6.cutPl 0 (by kernel_rfl)), (Heap.le_trans aa c7), e⟩⟩
         ·
          rw [ak, cond_false] at e
          have cb : Kn 49 [(k, m + (x_v20 : Int).toNat * 6), (u, ac + (x_v20 : Int).toNat * 6)] ((tB 34 false) :: (K38m5 x_v20 x_v11 b x_v10 d a_l l c_l)) bv := (br.setB 34 false (by rfl) ak).kp
          refine Rk 18 9 ((tB 5 false) :: (tI 6 x_v20) :: (K38m4 x_v11 b x_v10 d a_l l c_l)) cb af fun ea cc => ?_
          refine wf (wp_region_from (Rk 0 3 ((tI 6 (IntKind.i64.wrap (x_v20 + 1))) :: (tB 5 false) :: (K38m4 x_v11 b x_v10 d a_l l c_l)) cc af fun eb cd => ?_))
          refine wf ?_
          exact Exists.intro ab ⟨Nat.lt_succ_self _, Exists.intro (IntKind.i64.wrap (x_v20 + 1)) ⟨false, _, _, rfl, ((cd.keep [6, 5, 4, 3, 0] (by rfl)).cut 0 (by kernel_rfl)), (af.cutPl 0 (by kernel_rfl)), aa, e⟩⟩
        ·
         rw [aj, cond_false] at e
         have ce : Kn 49 [(k, m + (x_v20 : Int).toNat * 6)] ((tB 26 false) :: (K38m5 x_v20 x_v11 b x_v10 d a_l l c_l)) bu := (bp.setB 26 false (by rfl) aj).kp
         refine Rk 10 17 ((tB 5 false) :: (tI 6 x_v20) :: (K38m4 x_v11 b x_v10 d a_l l c_l)) ce ae fun ec cf => ?_
         refine wf (wp_region_from (Rk 0 3 ((tI 6 (IntKind.i64.wrap (x_v20 + 1))) :: (tB 5 false) :: (K38m4 x_v11 b x_v10 d a_l l c_l)) cf ae fun ed cg => ?_))
         refine wf ?_
         exact Exists.intro ab ⟨Nat.lt_succ_self _, Exists.intro (IntKind.i64.wrap (x_v20 + 1)) ⟨false, _, _, rfl, ((cg.keep [6, 5, 4, 3, 0] (by rfl)).cut 0 (by kernel_rfl)), (ae.cutPl 0 (by kernel_rfl)), aa, e⟩⟩
      ·
       rw [ay, cond_false] at e
       refine wp_exit ?_
       obtain rfl := Option.some.inj e
       exact Exists.intro _ ⟨_, rfl, a3.kp, p, aa⟩
    ·
     rintro _ ex ⟨be, o, rfl, ch, al, a4⟩
     replace z := z.mono a4
     refine wp_seq (wp_region_from (Rk 0 1 ((tB 43 au) :: (K38m4 x_v11 b x_v10 d a_l l c_l)) ch al fun ee a1 => ?_))
     refine wf (wC (au) a1 (fun aw => ?_) (fun aw => ?_))
     ·
      rw [aw, cond_true] at f
      refine wp_region_from (Rk 0 2 [(tI 45 x_v11), (tS 44 b x_v10.length d), (tI 4 x_v11), (tS 0 a_l l.length c_l)] a1 al fun ef ci => ?_)
      refine wl fun K hK => ?_
      refine wS 3 1 [.int .i64 x_v11] ci al fun ap dt dx (cj : Kn 49 [] [(tS 46 ap 1 1), (tI 45 x_v11), (tS 44 b x_v10.length d), (tI 4 x_v11), (tS 0 a_l l.length c_l)] dt) (bs : Mem ⟨w, h, noX⟩ o [] [] [⟨b, x_v10.length, d, 3, 1, g, 0⟩, ⟨ap, 1, 1, 3, 1, ([.int .i64 x_v11] : List Value), 0⟩] dx) => ?_
      have az : Cells o ([x_v11] : List Int) ([.int .i64 x_v11] : List Value) := ⟨_, _, rfl, (rep_int : rep o (x_v11 : Int) _), rfl⟩
      refine hK _ _ ?_
      obtain ⟨x47, ex47, f⟩ := bnd f
      obtain ⟨ba, c6⟩ := app_some ex47
      refine wl fun K hK => ?_
      refine wp_append 0 8 1 _ (x47.length) _ ([.int .i64 x_v11] : List Value) cj bs rfl rfl (by decide) rfl (by rfl) (by kernel_rfl) (by rfl) (by rfl) (Cells.len az) (bs.rowCell (i := 1) rfl) az.one (by rw [ba]; simp <;> omega) (by rw [ba]; exact c6) (by decide) fun ag ah bj du dy b6 (ck : Kn 49 [] [(tS 47 ag x47.length ah), (tS 46 ap 1 1), (tI 45 x_v11), (tS 44 b x_v10.length d), (tI 4 x_v11), (tS 0 a_l l.length c_l)] du) (a7 : Mem ⟨w, h, noX⟩ o [] [] [⟨ag, x47.length, ah, 3, 1, (g ++ ([.int .i64 x_v11] : List Value)), bj⟩, ⟨ap, 1, 1, 3, 1, ([.int .i64 x_v11] : List Value), 0⟩] dy) => ?_
      have b2 : Cells o x47 (g ++ ([.int .i64 x_v11] : List Value)) := by rw [ba]; exact Cells.append z az
      obtain rfl : bj = 0 := Nat.le_zero.1 b6
      refine hK _ _ ?_
      refine Rk 4 1 [(tS 3 ag x47.length ah), (tI 4 x_v11), (tS 0 a_l l.length c_l)] ck a7 fun eg cl => ?_
      refine wf (wp_region_from (Rk 0 3 [(tI 4 (IntKind.i64.wrap (x_v11 + 1))), (tS 3 ag x47.length ah), (tS 0 a_l l.length c_l)] cl a7 fun eh cm => ?_))
      refine wf ?_
      exact Exists.intro an ⟨Nat.lt_succ_self _, Exists.intro x47 ⟨(IntKind.i64.wrap (x_v11 + 1)), ag, ah, (g ++ ([.int .i64 x_v11] : List Value)), _, _, rfl, cm.kp, (a7.cutRw 1), (Heap.le_trans ar a4), b2, f⟩⟩
     ·
      rw [aw, cond_false] at f
      refine wp_skip (wp_region_from (Rk 0 3 [(tI 4 (IntKind.i64.wrap (x_v11 + 1))), (tS 3 b x_v10.length d), (tS 0 a_l l.length c_l)] a1 al fun ei cn => ?_))
      refine wf ?_
      exact Exists.intro an ⟨Nat.lt_succ_self _, Exists.intro x_v10 ⟨(IntKind.i64.wrap (x_v11 + 1)), b, d, g, _, _, rfl, cn.kp, al, (Heap.le_trans ar a4), z, f⟩⟩
   ·
    rw [ax, cond_false] at f
    refine wp_exit ?_
    obtain rfl := Option.some.inj f
    exact Exists.intro b ⟨d, g, _, _, rfl, a2.kp, am, ar, z⟩
 ·
  rintro _ dz ⟨s, x, ao, bc, aq, rfl, co, a8, d4, a0⟩
  refine wp_seq (wp_region_from (Rk 0 2 [(tS 2 s q.length x)] co a8 fun ej cp => ?_))
  refine wf (wp_ret ?_)
  obtain ⟨bk, c8, dh, a9⟩ := a8.settle (i := 0) rfl
  replace a0 := a0.mono c8
  replace a9 : Mem ⟨w, h, noX⟩ bk [] [] [⟨s, q.length, x, 3, 1, ao, (ao : List Value).length⟩] dz := a9
  have dg : RepS bk s x q := ⟨_, a0, dh, a8.rowCap (i := 0) rfl⟩
  obtain rfl := Option.some.inj H
  exact rt (.one (.c (.slice s q.length x))) cp a9 ⟨_, _, rfl, dg⟩
abbrev K39e1 (k m : Nat) (x_v20 : Int) (p s : Nat) : Env := [(k, m + (x_v20 : Int).toNat * 6), (p, s + (x_v20 : Int).toNat * 6)]
abbrev K39c2 (x22 : Card) : List SC := [.int .i64 x22.bus, .int .i64 x22.number, .int .i64 x22.minute, .int .u8 x22.kind.n, .int .i64 x22.part, .int .i64 x22.sg]
abbrev K39c3 (x31 : Card) : List SC := [.int .i64 x31.bus, .int .i64 x31.number, .int .i64 x31.minute, .int .u8 x31.kind.n, .int .i64 x31.part, .int .i64 x31.sg]
abbrev K39c4 (x38 : Card) : List SC := [.int .i64 x38.bus, .int .i64 x38.number, .int .i64 x38.minute, .int .u8 x38.kind.n, .int .i64 x38.part, .int .i64 x38.sg]
abbrev K39m5 (x_v11 : Int) (b : Option Addr) (x_v10 : List Int) (d : Nat) (a_l : Option Addr) (l : List Card) (c_l : Nat) (minute : Int) : TM := [(tI 6 x_v11), (tS 5 b x_v10.length d), (tS 0 a_l l.length c_l), (tI 1 minute)]
abbrev K39m6 (x_v20 x_v11 : Int) (b : Option Addr) (x_v10 : List Int) (d : Nat) (a_l : Option Addr) (l : List Card) (c_l : Nat) (minute : Int) : TM := (tB 28 true) :: (tB 7 true) :: (tI 9 x_v20) :: (K39m5 x_v11 b x_v10 d a_l l c_l minute)
set_option maxRecDepth 100000 in
set_option maxHeartbeats 4000000 in
theorem ref_Fit_ok (n : Nat) {h : Heap} {w : World} (hh : Has h w) (l : List Card) {a_l : Option Addr} {c_l : Nat} (hr_l : RepS h a_l c_l l) (minute : Int) {r : List Int} (H : ref_Fit n l minute = some r) :
  Calls Try.prog 39 #[.slice a_l l.length c_l, .int .i64 minute] w (Ret (fun h v => ∃ a c, v = .slice a r.length c ∧ RepS h a c r) h w) := by
 refine enter 54 [.c (.slice a_l l.length c_l), .c (.int .i64 minute)] Try.func39 rfl rfl rfl rfl fun t hk => ?_
 have hm := Mem.begin h w hh
 unfold ref_Fit at H
 refine wp_seq (wp_region_from (Rk 0 1 [(tS 0 a_l l.length c_l), (tI 1 minute)] hk hm fun en da => ?_))
 refine wf (wp_seq (wp_region_from (Rk 0 1 [(tS 5 none 0 0), (tS 0 a_l l.length c_l), (tI 1 minute)] da hm fun e5 de => ?_)))
 refine wf (wp_seq (wp_seq (wp_region_from (Rk 0 1 [(tI 6 0), (tS 5 none 0 0), (tS 0 a_l l.length c_l), (tI 1 minute)] de hm fun e9 dh => ?_))))
 refine wf ?_
 have dq : Mem ⟨w, h, noX⟩ h [] [] [⟨none, 0, 0, 3, 1, [], 0⟩] w := hm.nilRow 3 1
 have cg : Cells h ([] : List Int) [] := Cells.nil
 obtain ⟨z, bp, H⟩ := bnd H
 refine wp_mid' (fun a' w' => ∃ (aa : Option Addr) (ab : Nat) (ao : List Value) (bl : Array Value) (ar : Heap), a' = ⟨bl, []⟩ ∧ Kn 54 [] [(tS 5 aa z.length ab)] bl ∧ Mem ⟨w, h, noX⟩ ar [] [] [⟨aa, z.length, ab, 3, 1, ao, 0⟩] w' ∧ Heap.le h ar ∧ Cells ar z ao) ?_ ?_
 ·
  refine wp_block ?_
  refine wp_loop_n (fun d5 a' w' => ∃ (x_v10 : List Int) (x_v11 : Int) (b : Option Addr) (d : Nat) (g : List Value) (bm : Array Value) (ad : Heap), a' = ⟨bm, []⟩ ∧ Kn 54 [] (K39m5 x_v11 b x_v10 d a_l l c_l minute) bm ∧ Mem ⟨w, h, noX⟩ ad [] [] [⟨b, x_v10.length, d, 3, 1, g, 0⟩] w' ∧ Heap.le h ad ∧ Cells ad x_v10 g ∧ ref_Fit_l1 d5 l minute x_v10 x_v11 = some z) n ?_ ?_
  ·
   exact Exists.intro ([] : List Int) ⟨0, none, 0, ([]), _, _, rfl, dh.kp, dq, (Heap.le_refl _), cg, bp⟩
  ·
   rintro an _ fl ⟨x_v10, x_v11, b, d, g, bm, ad, rfl, db, am, aw, o, f⟩
   clear bp
   obtain _ | an := an
   ·
    rw [ref_Fit_l1] at f; cases f
   rw [ref_Fit_l1] at f
   replace hr_l := hr_l.mono aw
   refine wp_seq (wp_seq (wp_region_from (Rk 0 2 ((tB 11 (decide (x_v11 ≤ 99))) :: (K39m5 x_v11 b x_v10 d a_l l c_l minute)) db am fun e6 a8 => ?_)))
   refine wf (wC (decide (x_v11 ≤ 99)) a8 (fun a2 => ?_) (fun a2 => ?_))
   ·
    rw [a2, cond_true] at f
    refine wp_skip (wp_seq (wp_block (wp_seq (wp_region_from (Rk 0 2 ((tB 8 true) :: (tB 7 false) :: (K39m5 x_v11 b x_v10 d a_l l c_l minute)) a8 am fun e7 dc => ?_)))))
    refine wf (wp_seq (wp_seq (wp_region_from (Rk 0 1 ((tI 9 0) :: (tB 8 true) :: (tB 7 false) :: (K39m5 x_v11 b x_v10 d a_l l c_l minute)) dc am fun e8 dd => ?_))))
    refine wf ?_
    obtain ⟨u, bq, f⟩ := bnd f
    refine wp_mid' (fun a' w' => ∃ (bn : Array Value) (au : Heap), a' = ⟨bn, []⟩ ∧ Kn 54 [] ((tB 8 u.1) :: (tB 7 u.2) :: (K39m5 x_v11 b x_v10 d a_l l c_l minute)) bn ∧ Mem ⟨w, h, noX⟩ au [] [] [⟨b, x_v10.length, d, 3, 1, g, 0⟩] w' ∧ Heap.le ad au) ?_ ?_
    ·
     refine wp_block ?_
     refine wp_loop_n (fun d6 a' w' => ∃ (x_v20 : Int) (x_v21 : Bool) (x_v22 : Bool) (bo : Array Value) (ae : Heap), a' = ⟨bo, []⟩ ∧ Kn 54 [] ((tI 9 x_v20) :: (tB 8 x_v21) :: (tB 7 x_v22) :: (K39m5 x_v11 b x_v10 d a_l l c_l minute)) bo ∧ Mem ⟨w, h, noX⟩ ae [] [] [⟨b, x_v10.length, d, 3, 1, g, 0⟩] w' ∧ Heap.le ad ae ∧ ref_Fit_l2 d6 l minute x_v11 x_v20 x_v21 x_v22 = some u) an ?_ ?_
     ·
      exact Exists.intro 0 ⟨true, false, _, _, rfl, dd.kp, am, (Heap.le_refl _), bq⟩
     ·
      rintro y _ b7 ⟨x_v20, x_v21, x_v22, bo, ae, rfl, df, az, ac, e⟩
      clear bq
      obtain _ | y := y
      ·
       rw [ref_Fit_l2] at e; cases e
      rw [ref_Fit_l2] at e
      replace hr_l := hr_l.mono ac
      replace o := o.mono ac
      refine wp_seq (wp_seq (wp_region_from (Rk 0 4 ((tB 17 (decide (x_v20 < ((l.length : Nat) : Int)))) :: (tI 9 x_v20) :: (tB 8 x_v21) :: (tB 7 x_v22) :: (K39m5 x_v11 b x_v10 d a_l l c_l minute)) df az fun fa a9 => ?_)))
      refine wf (wC (decide (x_v20 < ((l.length : Nat) : Int))) a9 (fun a3 => ?_) (fun a3 => ?_))
      ·
       rw [a3, cond_true] at e
       refine wp_skip (wp_seq (wp_block (wp_seq (wp_region_from (Rk 0 2 ((tI 21 x_v20) :: (tS 20 a_l l.length c_l) :: (tI 9 x_v20) :: (tB 8 x_v21) :: (tB 7 x_v22) :: (K39m5 x_v11 b x_v10 d a_l l c_l minute)) a9 az fun fb dg => ?_)))))
       obtain ⟨x22, ex22, e⟩ := bnd e
       obtain ⟨ds, dv, d3⟩ := idx_some ex22
       obtain ⟨k, m, ej, cb, d0, cf⟩ := hr_l.get (by decide) d3
       obtain ⟨_, _, rfl, rfl, ⟨_, _, rfl, rfl, ⟨_, _, rfl, rfl, ⟨_, _, rfl, rfl, ⟨_, _, rfl, rfl, rfl⟩⟩⟩⟩⟩ := d0
       have q : Mem ⟨w, h, noX⟩ ae [(k, m + (x_v20 : Int).toNat * 6)] [⟨(K39c2 x22), none⟩] [⟨b, x_v10.length, d, 3, 1, g, 0⟩] b7 := az.addPlc (cs := (K39c2 x22)) (fun j c hj => cf j _ (map_get hj)) rfl (by kernel_rfl) (by kernel_rfl)
       refine R_index 2 (x_v20) rfl rfl (rfl) rfl (by decide) dg (by rfl) (by rfl) (by rfl) cb (by rfl) ds dv (by kernel_rfl) fun ec (di : Kn 54 [(k, m + (x_v20 : Int).toNat * 6)] ((tP 22 0 0) :: (tI 21 x_v20) :: (tS 20 a_l l.length c_l) :: (tI 9 x_v20) :: (tB 8 x_v21) :: (tB 7 x_v22) :: (K39m5 x_v11 b x_v10 d a_l l c_l minute)) ec) => ?_
       refine Rk 3 4 ((tB 26 (x22.bus == x_v11)) :: (tI 9 x_v20) :: (tB 8 x_v21) :: (tB 7 x_v22) :: (K39m5 x_v11 b x_v10 d a_l l c_l minute)) di q fun fc ba => ?_
       refine wf (wC ((x22.bus == x_v11)) ba (fun a4 => ?_) (fun a4 => ?_))
       ·
        rw [a4, cond_true] at e
        refine wp_seq (wp_region_from (Rk 0 1 ((tB 7 true) :: (tI 9 x_v20) :: (tB 8 x_v21) :: (K39m5 x_v11 b x_v10 d a_l l c_l minute)) ba q fun fd dj => ?_))
        refine wf (wp_region_from (Rk 0 2 ((tB 28 x_v21) :: (tB 7 true) :: (tI 9 x_v20) :: (K39m5 x_v11 b x_v10 d a_l l c_l minute)) dj q fun b6 bz => ?_))
        rcases Bool.eq_false_or_eq_true (x_v21) with ak | ak
        ·
         rw [ak, cond_true] at e
         have dk : Kn 54 [(k, m + (x_v20 : Int).toNat * 6)] (K39m6 x_v20 x_v11 b x_v10 d a_l l c_l minute) b6 := (bz.setB 28 true (by rfl) ak).kp
         refine Rk 2 2 ((tI 30 x_v20) :: (tS 29 a_l l.length c_l) :: (K39m6 x_v20 x_v11 b x_v10 d a_l l c_l minute)) dk q fun fe b0 => ?_
         obtain ⟨x31, ex31, e⟩ := bnd e
         obtain ⟨dt, dw, d4⟩ := idx_some ex31
         obtain ⟨p, s, ek, cc, d1, ch⟩ := hr_l.get (by decide) d4
         obtain ⟨_, _, rfl, rfl, ⟨_, _, rfl, rfl, ⟨_, _, rfl, rfl, ⟨_, _, rfl, rfl, ⟨_, _, rfl, rfl, rfl⟩⟩⟩⟩⟩ := d1
         have bh : Mem ⟨w, h, noX⟩ ae (K39e1 k m x_v20 p s) [⟨(K39c2 x22), none⟩, ⟨(K39c3 x31), none⟩] [⟨b, x_v10.length, d, 3, 1, g, 0⟩] b7 := q.addPlc (cs := (K39c3 x31)) (fun j c hj => ch j _ (map_get hj)) rfl (by kernel_rfl) (by kernel_rfl)
         refine R_index 4 (x_v20) rfl rfl (wantedS_sound b0 (by kernel_rfl)) rfl (by decide) b0 (by rfl) (by rfl) (by rfl) cc (by rfl) dt dw (by kernel_rfl) fun ed (dl : Kn 54 (K39e1 k m x_v20 p s) ((tP 31 1 0) :: (tI 30 x_v20) :: (tS 29 a_l l.length c_l) :: (K39m6 x_v20 x_v11 b x_v10 d a_l l c_l minute)) ed) => ?_
         refine Rk 5 1 ((tA 32 (K39c3 x31)) :: (K39m6 x_v20 x_v11 b x_v10 d a_l l c_l minute)) dl bh fun ff b1 => ?_
         obtain ⟨x33, ex33, e⟩ := bnd e
         refine wpFrom_loud _ rfl (wantedS_sound b1 (by kernel_rfl)) fun K hK => ?_
         refine wc [.agg (K39c3 x31)] b1 bh (ref_Defect_ok y bh.has x31 ((rep_pair rep_int (rep_pair rep_int (rep_pair rep_int (rep_pair rep_ik (rep_pair rep_int rep_int))))) : rep ae x31 _) ex33) fun fh bt eh b9 ax af => ?_
         replace hr_l := hr_l.mono ax
         replace o := o.mono ax
         obtain rfl := b9
         refine ⟨.one (.c (.bool x33)), rfl, fun d7 (cj : Kn 54 (K39e1 k m x_v20 p s) ((tB 33 x33) :: (tA 32 (K39c3 x31)) :: (K39m6 x_v20 x_v11 b x_v10 d a_l l c_l minute)) d7) => hK _ _ ?_⟩
         refine Rk 7 1 ((tB 34 x33) :: (K39m6 x_v20 x_v11 b x_v10 d a_l l c_l minute)) cj af fun b4 bu => ?_
         rcases Bool.eq_false_or_eq_true (x33) with ai | ai
         ·
          rw [ai, cond_true] at e
          have ck : Kn 54 (K39e1 k m x_v20 p s) ((tB 34 true) :: (K39m6 x_v20 x_v11 b x_v10 d a_l l c_l minute)) b4 := (bu.setB 34 true (by rfl) ai).kp
          refine Rk 8 3 ((tI 37 x_v20) :: (tS 36 a_l l.length c_l) :: (tS 35 a_l l.length c_l) :: (tB 34 true) :: (K39m6 x_v20 x_v11 b x_v10 d a_l l c_l minute)) ck af fun eo bv => ?_
          obtain ⟨x38, ex38, e⟩ := bnd e
          obtain ⟨dr, du, d2⟩ := idx_some ex38
          obtain ⟨a0, bj, ei, ca, dz, cd⟩ := hr_l.get (by decide) d2
          obtain ⟨_, _, rfl, rfl, ⟨_, _, rfl, rfl, ⟨_, _, rfl, rfl, ⟨_, _, rfl, rfl, ⟨_, _, rfl, rfl, rfl⟩⟩⟩⟩⟩ := dz
          have bc : Mem ⟨w, h, noX⟩ bt [(k, m + (x_v20 : Int).toNat * 6), (p, s + (x_v20 : Int).toNat * 6), (a0, bj + (x_v20 : Int).toNat * 6)] [⟨(K39c2 x22), none⟩, ⟨(K39c3 x31), none⟩, ⟨(K39c4 x38), none⟩] [⟨b, x_v10.length, d, 3, 1, g, 0⟩] eh := af.addPlc (cs := (K39c4 x38)) (fun j c hj => cd j _ (map_get hj)) rfl (by kernel_rfl) (by kernel_rfl)
          refine R_index 11 (x_v20) rfl rfl (wantedS_sound bv (by kernel_rfl)) rfl (by decide) bv (by rfl) (by rfl) (by rfl) ca (by rfl) dr du (by kernel_rfl) fun d8 (cl : Kn 54 [(k, m + (x_v20 : Int).toNat * 6), (p, s + (x_v20 : Int).toNat * 6), (a0, bj + (x_v20 : Int).toNat * 6)] ((tP 38 2 0) :: (tI 37 x_v20) :: (tS 36 a_l l.length c_l) :: (tS 35 a_l l.length c_l) :: (tB 34 true) :: (K39m6 x_v20 x_v11 b x_v10 d a_l l c_l minute)) d8) => ?_
          refine Rk 12 2 ((tI 40 minute) :: (tA 39 (K39c4 x38)) :: (tS 35 a_l l.length c_l) :: (tB 34 true) :: (K39m6 x_v20 x_v11 b x_v10 d a_l l c_l minute)) cl bc fun ep bw => ?_
          obtain ⟨x41, ex41, e⟩ := bnd e
          refine wpFrom_loud _ rfl (wantedS_sound bw (by kernel_rfl)) fun K hK => ?_
          refine wc [.c (.slice a_l l.length c_l), .agg (K39c4 x38), .c (.int .i64 minute)] bw bc (ref_Open_ok y bc.has l hr_l x38 ((rep_pair rep_int (rep_pair rep_int (rep_pair rep_int (rep_pair rep_ik (rep_pair rep_int rep_int))))) : rep bt x38 _) minute ex41) fun fg el fi b8 dn bd => ?_
          obtain rfl := b8
          refine ⟨.one (.c (.bool x41)), rfl, fun d9 (cm : Kn 54 [(k, m + (x_v20 : Int).toNat * 6), (p, s + (x_v20 : Int).toNat * 6), (a0, bj + (x_v20 : Int).toNat * 6)] ((tB 41 x41) :: (tI 40 minute) :: (tA 39 (K39c4 x38)) :: (tS 35 a_l l.length c_l) :: (tB 34 true) :: (K39m6 x_v20 x_v11 b x_v10 d a_l l c_l minute)) d9) => hK _ _ ?_⟩
          refine Rk 15 4 ((tB 8 (!x41)) :: (tB 7 true) :: (tI 9 x_v20) :: (K39m5 x_v11 b x_v10 d a_l l c_l minute)) cm bd fun er cn => ?_
          refine wf (wp_region_from (Rk 0 3 ((tI 9 (IntKind.i64.wrap (x_v20 + 1))) :: (tB 8 (!x41)) :: (tB 7 true) :: (K39m5 x_v11 b x_v10 d a_l l c_l minute)) cn bd fun es co => ?_))
          refine wf ?_
          exact Exists.intro y ⟨Nat.lt_succ_self _, Exists.intro (IntKind.i64.wrap (x_v20 + 1)) ⟨(!x41), true, _, _, rfl, ((co.keep [9, 8, 7, 6, 5, 0, 1] (by rfl)).cut 0 (by kernel_rfl)), (bd.cutPl 0 (by kernel_rfl)), (Heap.le_trans ac (Heap.le_trans ax dn)), e⟩⟩
         ·
          rw [ai, cond_false] at e
          have cp : Kn 54 (K39e1 k m x_v20 p s) ((tB 34 false) :: (K39m6 x_v20 x_v11 b x_v10 d a_l l c_l minute)) b4 := (bu.setB 34 false (by rfl) ai).kp
          refine Rk 8 11 ((tB 8 (!false)) :: (tB 7 true) :: (tI 9 x_v20) :: (K39m5 x_v11 b x_v10 d a_l l c_l minute)) cp af fun et cq => ?_
          refine wf (wp_region_from (Rk 0 3 ((tI 9 (IntKind.i64.wrap (x_v20 + 1))) :: (tB 8 (!false)) :: (tB 7 true) :: (K39m5 x_v11 b x_v10 d a_l l c_l minute)) cq af fun eu cr => ?_))
          refine wf ?_
          exact Exists.intro y ⟨Nat.lt_succ_self _, Exists.intro (IntKind.i64.wrap (x_v20 + 1)) ⟨(!false), true, _, _, rfl, ((cr.keep [9, 8, 7, 6, 5, 0, 1] (by rfl)).cut 0 (by kernel_rfl)), (af.cutPl 0 (by kernel_rfl)), (Heap.le_trans ac ax), e⟩⟩
        ·
         rw [ak, cond_false] at e
         have ct : Kn 54 [(k, m + (x_v20 : Int).toNat * 6)] ((tB 28 false) :: (tB 7 true) :: (tI 9 x_v20) :: (K39m5 x_v11 b x_v10 d a_l l c_l minute)) b6 := (bz.setB 28 false (by rfl) ak).kp
         refine Rk 2 17 ((tB 8 false) :: (tB 7 true) :: (tI 9 x_v20) :: (K39m5 x_v11 b x_v10 d a_l l c_l minute)) ct q fun ev cu => ?_
         refine wf (wp_region_from (Rk 0 3 ((tI 9 (IntKind.i64.wrap (x_v20 + 1))) :: (tB 8 false) :: (tB 7 true) :: (K39m5 x_v11 b x_v10 d a_l l c_l minute)) cu q fun ew cv => ?_))
         refine wf ?_
         exact Exists.intro y ⟨Nat.lt_succ_self _, Exists.intro (IntKind.i64.wrap (x_v20 + 1)) ⟨false, true, _, _, rfl, ((cv.keep [9, 8, 7, 6, 5, 0, 1] (by rfl)).cut 0 (by kernel_rfl)), (q.cutPl 0 (by kernel_rfl)), ac, e⟩⟩
       ·
        rw [a4, cond_false] at e
        refine wp_skip (wp_region_from (Rk 0 3 ((tI 9 (IntKind.i64.wrap (x_v20 + 1))) :: (tB 8 x_v21) :: (tB 7 x_v22) :: (K39m5 x_v11 b x_v10 d a_l l c_l minute)) ba q fun ex cw => ?_))
        refine wf ?_
        exact Exists.intro y ⟨Nat.lt_succ_self _, Exists.intro (IntKind.i64.wrap (x_v20 + 1)) ⟨x_v21, x_v22, _, _, rfl, ((cw.keep [9, 8, 7, 6, 5, 0, 1] (by rfl)).cut 0 (by kernel_rfl)), (q.cutPl 0 (by kernel_rfl)), ac, e⟩⟩
      ·
       rw [a3, cond_false] at e
       refine wp_exit ?_
       obtain rfl := Option.some.inj e
       exact Exists.intro _ ⟨_, rfl, a9.kp, az, ac⟩
    ·
     rintro _ fj ⟨bn, au, rfl, cx, al, av⟩
     replace hr_l := hr_l.mono av
     replace o := o.mono av
     refine wp_seq ?_
     obtain ⟨b3, aq, f⟩ := bnd f
     refine wp_mid' (fun a' w' => ∃ (bk : Array Value) (x : Heap), a' = ⟨bk, []⟩ ∧ Kn 54 [] [(tI 6 x_v11), (tS 5 b x_v10.length d), (tS 0 a_l l.length c_l), (tI 1 minute), (tB 48 b3)] bk ∧ Mem ⟨w, h, noX⟩ x [] [] [⟨b, x_v10.length, d, 3, 1, g, 0⟩] w' ∧ Heap.le au x) ?_ ?_
     ·
      refine wp_region_from (Rk 0 2 ((tB 46 u.2) :: (tB 8 u.1) :: (K39m5 x_v11 b x_v10 d a_l l c_l minute)) cx al fun b5 bx => ?_)
      rcases Bool.eq_false_or_eq_true (u.2) with aj | aj
      ·
       rw [aj, cond_true] at aq
       have cy : Kn 54 [] ((tB 46 true) :: (tB 8 u.1) :: (K39m5 x_v11 b x_v10 d a_l l c_l minute)) b5 := (bx.setB 46 true (by rfl) aj).kp
       refine Rk 2 2 ((tB 48 u.1) :: (K39m5 x_v11 b x_v10 d a_l l c_l minute)) cy al fun ey cz => ?_
       refine wf ?_
       obtain rfl := Option.some.inj aq
       exact Exists.intro _ ⟨_, rfl, cz.kp, al, (Heap.le_refl _)⟩
      ·
       rw [aj, cond_false] at aq
       have c0 : Kn 54 [] ((tB 46 false) :: (tB 8 u.1) :: (K39m5 x_v11 b x_v10 d a_l l c_l minute)) b5 := (bx.setB 46 false (by rfl) aj).kp
       refine Rk 2 2 ((tB 48 false) :: (K39m5 x_v11 b x_v10 d a_l l c_l minute)) c0 al fun ez c1 => ?_
       refine wf ?_
       obtain rfl := Option.some.inj aq
       exact Exists.intro _ ⟨_, rfl, c1.kp, al, (Heap.le_refl _)⟩
     ·
      rintro _ fk ⟨bk, x, rfl, a7, ay, bb⟩
      replace o := o.mono bb
      refine wC (b3) a7 (fun a1 => ?_) (fun a1 => ?_)
      ·
       rw [a1, cond_true] at f
       refine wp_region_from (Rk 0 2 [(tI 50 x_v11), (tS 49 b x_v10.length d), (tI 6 x_v11), (tS 0 a_l l.length c_l), (tI 1 minute)] a7 ay fun e0 c2 => ?_)
       refine wl fun K hK => ?_
       refine wS 3 1 [.int .i64 x_v11] c2 ay fun ap ea ee (c3 : Kn 54 [] [(tS 51 ap 1 1), (tI 50 x_v11), (tS 49 b x_v10.length d), (tI 6 x_v11), (tS 0 a_l l.length c_l), (tI 1 minute)] ea) (b2 : Mem ⟨w, h, noX⟩ x [] [] [⟨b, x_v10.length, d, 3, 1, g, 0⟩, ⟨ap, 1, 1, 3, 1, ([.int .i64 x_v11] : List Value), 0⟩] ee) => ?_
       have a6 : Cells x ([x_v11] : List Int) ([.int .i64 x_v11] : List Value) := ⟨_, _, rfl, (rep_int : rep x (x_v11 : Int) _), rfl⟩
       refine hK _ _ ?_
       obtain ⟨x52, ex52, f⟩ := bnd f
       obtain ⟨bi, dm⟩ := app_some ex52
       refine wl fun K hK => ?_
       refine wp_append 0 8 1 _ (x52.length) _ ([.int .i64 x_v11] : List Value) c3 b2 rfl rfl (by decide) rfl (by rfl) (by kernel_rfl) (by rfl) (by rfl) (Cells.len a6) (b2.rowCell (i := 1) rfl) a6.one (by rw [bi]; simp <;> omega) (by rw [bi]; exact dm) (by decide) fun ag ah br eb ef ci (c4 : Kn 54 [] [(tS 52 ag x52.length ah), (tS 51 ap 1 1), (tI 50 x_v11), (tS 49 b x_v10.length d), (tI 6 x_v11), (tS 0 a_l l.length c_l), (tI 1 minute)] eb) (be : Mem ⟨w, h, noX⟩ x [] [] [⟨ag, x52.length, ah, 3, 1, (g ++ ([.int .i64 x_v11] : List Value)), br⟩, ⟨ap, 1, 1, 3, 1, ([.int .i64 x_v11] : List Value), 0⟩] ef) => ?_
       have ce : Cells x x52 (g ++ ([.int .i64 x_v11] : List Value)) := by rw [bi]; exact Cells.append o a6
       obtain rfl : br = 0 := Nat.le_zero.1 ci
       refine hK _ _ ?_
       refine Rk 4 1 [(tS 5 ag x52.length ah), (tI 6 x_v11), (tS 0 a_l l.length c_l), (tI 1 minute)] c4 be fun e1 c5 => ?_
       refine wf (wp_region_from (Rk 0 3 [(tI 6 (IntKind.i64.wrap (x_v11 + 1))), (tS 5 ag x52.length ah), (tS 0 a_l l.length c_l), (tI 1 minute)] c5 be fun e2 c6 => ?_))
       refine wf ?_
       exact Exists.intro an ⟨Nat.lt_succ_self _, Exists.intro x52 ⟨(IntKind.i64.wrap (x_v11 + 1)), ag, ah, (g ++ ([.int .i64 x_v11] : List Value)), _, _, rfl, c6.kp, (be.cutRw 1), (Heap.le_trans aw (Heap.le_trans av bb)), ce, f⟩⟩
      ·
       rw [a1, cond_false] at f
       refine wp_skip (wp_region_from (Rk 0 3 [(tI 6 (IntKind.i64.wrap (x_v11 + 1))), (tS 5 b x_v10.length d), (tS 0 a_l l.length c_l), (tI 1 minute)] a7 ay fun e3 c7 => ?_))
       refine wf ?_
       exact Exists.intro an ⟨Nat.lt_succ_self _, Exists.intro x_v10 ⟨(IntKind.i64.wrap (x_v11 + 1)), b, d, g, _, _, rfl, c7.kp, ay, (Heap.le_trans aw (Heap.le_trans av bb)), o, f⟩⟩
   ·
    rw [a2, cond_false] at f
    refine wp_exit ?_
    obtain rfl := Option.some.inj f
    exact Exists.intro b ⟨d, g, _, _, rfl, a8.kp, am, aw, o⟩
 ·
  rintro _ eg ⟨aa, ab, ao, bl, ar, rfl, c8, bf, em, a5⟩
  refine wp_seq (wp_region_from (Rk 0 2 [(tS 4 aa z.length ab)] c8 bf fun e4 c9 => ?_))
  refine wf (wp_ret ?_)
  obtain ⟨bs, dp, dy, bg⟩ := bf.settle (i := 0) rfl
  replace a5 := a5.mono dp
  replace bg : Mem ⟨w, h, noX⟩ bs [] [] [⟨aa, z.length, ab, 3, 1, ao, (ao : List Value).length⟩] eg := bg
  have dx : RepS bs aa ab z := ⟨_, a5, dy, bf.rowCap (i := 0) rfl⟩
  obtain rfl := Option.some.inj H
  exact rt (.one (.c (.slice aa z.length ab))) c9 bg ⟨_, _, rfl, dx⟩
end Go.Proofs.Ytkbphdjemgibnaa
