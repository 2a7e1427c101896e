/- Each call computes its plain function. -/
import Derived.Test.YtkbphdjemgibnaaProg
import Derived.Test.YtkbphdjemgibnaaOrP0
set_option linter.all false
namespace Go.Proofs.Ytkbphdjemgibnaa
open Go Go.RowKit
open Rep (rep)
open KRep (kv)
open VRep (rv)
set_option maxRecDepth 100000 in
set_option maxHeartbeats 4000000 in
theorem ref_In_ok (n : Nat) {h : Heap} {w : World} (hh : Has h w) (n_ : Int) (low : Int) (high : Int) {r : Bool} (H : ref_In n n_ low high = some r) :
  Calls Try.prog 26 #[.int .i64 n_, .int .i64 low, .int .i64 high] w (Ret (fun h v => v = .bool r) h w) := by
 refine enter 15 [.c (.int .i64 n_), .c (.int .i64 low), .c (.int .i64 high)] Try.func26 rfl rfl rfl rfl fun t hk => ?_
 have hm := Mem.begin h w hh
 unfold ref_In at H
 refine wp_seq (wp_region_from (Rk 0 1 [(tI 0 n_), (tI 1 low), (tI 2 high)] hk hm fun k f => ?_))
 refine wf (wp_seq (wp_region_from (Rk 0 4 [(tB 10 (decide (n_ ≥ low))), (tI 0 n_), (tI 2 high)] f hm fun d b => ?_)))
 rcases Bool.eq_false_or_eq_true (decide (n_ ≥ low)) with a | a
 ·
  rw [a, cond_true] at H
  have g : Kn 15 [] [(tB 10 true), (tI 0 n_), (tI 2 high)] d := (b.setB 10 true (by rfl) a).kp
  refine Rk 4 5 [(tB 6 (decide (n_ ≤ high)))] g hm fun m i => ?_
  refine wf (wp_ret ?_)
  obtain rfl := Option.some.inj H
  exact rt (.one (.c (.bool (decide (n_ ≤ high))))) i hm rfl
 ·
  rw [a, cond_false] at H
  have j : Kn 15 [] [(tB 10 false), (tI 0 n_), (tI 2 high)] d := (b.setB 10 false (by rfl) a).kp
  refine Rk 4 5 [(tB 6 false)] j hm fun l e => ?_
  refine wf (wp_ret ?_)
  obtain rfl := Option.some.inj H
  exact rt (.one (.c (.bool false))) e hm rfl
abbrev K80c1 (c : Card) : List SC := [.int .i64 c.bus, .int .i64 c.number, .int .i64 c.minute, .int .u8 c.kind.n, .int .i64 c.part, .int .i64 c.sg]
abbrev K80m2 : TM := [(tB 38 true), (tP 1 0 0)]
abbrev K80m3 : TM := (tB 47 false) :: K80m2
set_option maxRecDepth 100000 in
set_option maxHeartbeats 4000000 in
theorem ref_Right_ok (n : Nat) {h : Heap} {w : World} (hh : Has h w) (c : Card) {cs_c : List Value} (hx_c : rep h c cs_c) {r : Bool} (H : ref_Right n c = some r) :
  Calls Try.prog 80 #[.agg cs_c.toArray] w (Ret (fun h v => v = .bool r) h w) := by
 obtain ⟨_, _, rfl, rfl, ⟨_, _, rfl, rfl, ⟨_, _, rfl, rfl, ⟨_, _, rfl, rfl, ⟨_, _, rfl, rfl, rfl⟩⟩⟩⟩⟩ := hx_c
 refine enter 58 [.agg (K80c1 c)] Try.func80 rfl rfl rfl rfl fun t hk => ?_
 have hm := Mem.begin h w hh
 unfold ref_Right at H
 refine wp_seq (wp_region_from (wl fun K hK => ?_))
 refine wb (.agg (K80c1 c)) hk hm fun a cp ct (b4 : Kn 58 [(a, 0)] [(tP 1 0 0), (tA 0 (K80c1 c))] cp) (ab : Mem ⟨w, h, noX⟩ h [(a, 0)] [⟨(K80c1 c), some 24⟩] [] ct) => hK _ _ ?_
 refine Rk 1 1 [(tP 1 0 0)] b4 ab fun df cd => ?_
 refine wf (wp_seq (wp_seq ?_))
 obtain ⟨a1, d, H⟩ := bnd H
 refine wp_mid' (fun a' w' => ∃ (aj : Array Value) (z : Heap), a' = ⟨aj, []⟩ ∧ Kn 58 [(a, 0)] [(tP 1 0 0), (tB 23 a1)] aj ∧ Mem ⟨w, h, noX⟩ z [(a, 0)] [⟨(K80c1 c), some 24⟩] [] w' ∧ Heap.le h z) ?_ ?_
 ·
  refine wp_region_from (Rk 0 2 [(tI 4 c.bus), (tP 1 0 0)] cd ab fun c3 bj => ?_)
  obtain ⟨x5, ex5, d⟩ := bnd d
  refine wl fun K hK => ?_
  refine wc [.c (.int .i64 c.bus), .c (.int .i64 0), .c (.int .i64 99)] bj ab (ref_In_ok n ab.has c.bus 0 99 ex5) fun dn cv dt bc aa g => ?_
  obtain rfl := bc
  refine ⟨.one (.c (.bool x5)), rfl, fun co (bz : Kn 58 [(a, 0)] [(tB 5 x5), (tI 4 c.bus), (tP 1 0 0)] co) => hK _ _ ?_⟩
  refine Rk 3 2 [(tB 7 (!x5)), (tP 1 0 0)] bz g fun a7 aq => ?_
  rcases Bool.eq_false_or_eq_true ((!x5)) with p | p
  ·
   rw [p, cond_true] at d
   have b0 : Kn 58 [(a, 0)] [(tB 7 true), (tP 1 0 0)] a7 := (aq.setB 7 true (by rfl) p).kp
   refine Rk 5 16 [(tB 23 true), (tP 1 0 0)] b0 g fun da b1 => ?_
   refine wf ?_
   obtain rfl := Option.some.inj d
   exact Exists.intro _ ⟨_, rfl, b1.kp, g, aa⟩
  ·
   rw [p, cond_false] at d
   have b2 : Kn 58 [(a, 0)] [(tB 7 false), (tP 1 0 0)] a7 := (aq.setB 7 false (by rfl) p).kp
   refine Rk 5 2 [(tI 9 c.number), (tB 7 false), (tP 1 0 0)] b2 g fun db ar => ?_
   obtain ⟨x10, ex10, d⟩ := bnd d
   refine wpFrom_loud _ rfl (wantedS_sound ar (by kernel_rfl)) fun K hK => ?_
   refine wc [.c (.int .i64 c.number), .c (.int .i64 1), .c (.int .i64 999)] ar g (ref_In_ok n g.has c.number 1 999 ex10) fun dp cw du bd ah i => ?_
   obtain rfl := bd
   refine ⟨.one (.c (.bool x10)), rfl, fun cq (b3 : Kn 58 [(a, 0)] [(tB 10 x10), (tI 9 c.number), (tB 7 false), (tP 1 0 0)] cq) => hK _ _ ?_⟩
   refine Rk 8 3 [(tB 13 (!x10)), (tP 1 0 0)] b3 i fun a8 au => ?_
   rcases Bool.eq_false_or_eq_true ((!x10)) with q | q
   ·
    rw [q, cond_true] at d
    have b5 : Kn 58 [(a, 0)] [(tB 13 true), (tP 1 0 0)] a8 := (au.setB 13 true (by rfl) q).kp
    refine Rk 11 10 [(tB 23 true), (tP 1 0 0)] b5 i fun dc b6 => ?_
    refine wf ?_
    obtain rfl := Option.some.inj d
    exact Exists.intro _ ⟨_, rfl, b6.kp, i, (Heap.le_trans aa ah)⟩
   ·
    rw [q, cond_false] at d
    have b7 : Kn 58 [(a, 0)] [(tB 13 false), (tP 1 0 0)] a8 := (au.setB 13 false (by rfl) q).kp
    refine Rk 11 2 [(tI 15 c.minute), (tB 13 false), (tP 1 0 0)] b7 i fun dd av => ?_
    obtain ⟨x16, ex16, d⟩ := bnd d
    refine wpFrom_loud _ rfl (wantedS_sound av (by kernel_rfl)) fun K hK => ?_
    refine wc [.c (.int .i64 c.minute), .c (.int .i64 0), .c (.int .i64 1000000)] av i (ref_In_ok n i.has c.minute 0 1000000 ex16) fun dq cx dv be ay x => ?_
    obtain rfl := be
    refine ⟨.one (.c (.bool x16)), rfl, fun cr (b8 : Kn 58 [(a, 0)] [(tB 16 x16), (tI 15 c.minute), (tB 13 false), (tP 1 0 0)] cr) => hK _ _ ?_⟩
    refine Rk 14 3 [(tB 19 (!x16)), (tP 1 0 0)] b8 x fun a9 aw => ?_
    rcases Bool.eq_false_or_eq_true ((!x16)) with s | s
    ·
     rw [s, cond_true] at d
     have b9 : Kn 58 [(a, 0)] [(tB 19 true), (tP 1 0 0)] a9 := (aw.setB 19 true (by rfl) s).kp
     refine Rk 17 4 [(tB 23 true), (tP 1 0 0)] b9 x fun de ca => ?_
     refine wf ?_
     obtain rfl := Option.some.inj d
     exact Exists.intro _ ⟨_, rfl, ca.kp, x, (Heap.le_trans aa (Heap.le_trans ah ay))⟩
    ·
     rw [s, cond_false] at d
     have cb : Kn 58 [(a, 0)] [(tB 19 false), (tP 1 0 0)] a9 := (aw.setB 19 false (by rfl) s).kp
     refine Rk 17 4 [(tB 23 (decide (c.kind.n > 3))), (tP 1 0 0)] cb x fun dg cc => ?_
     refine wf ?_
     obtain rfl := Option.some.inj d
     exact Exists.intro _ ⟨_, rfl, cc.kp, x, (Heap.le_trans aa (Heap.le_trans ah ay))⟩
 ·
  rintro _ dw ⟨aj, z, rfl, af, b, c0⟩
  refine wC (a1) af (fun ad => ?_) (fun ad => ?_)
  ·
   rw [ad, cond_true] at H
   refine wp_seq (wp_region_from (Rk 0 1 [(tB 2 false)] af b fun dh ce => ?_))
   refine wf (wp_ret ?_)
   obtain rfl := Option.some.inj H
   exact rt (.one (.c (.bool false))) ce b rfl
  ·
   rw [ad, cond_false] at H
   refine wp_skip (wp_seq (wp_seq (wp_region_from (Rk 0 3 [(tB 26 (decide (c.kind.n < 2))), (tP 1 0 0)] af b fun di ag => ?_))))
   refine wf (wC (decide (c.kind.n < 2)) ag (fun ae => ?_) (fun ae => ?_))
   ·
    rw [ae, cond_true] at H
    refine wp_seq ?_
    obtain ⟨a0, f, H⟩ := bnd H
    refine wp_mid' (fun a' w' => ∃ (ai : Array Value) (ac : Heap), a' = ⟨ai, []⟩ ∧ Kn 58 [(a, 0)] [(tB 2 a0)] ai ∧ Mem ⟨w, h, noX⟩ ac [(a, 0)] [⟨(K80c1 c), some 24⟩] [] w' ∧ Heap.le z ac) ?_ ?_
    ·
     refine wp_region_from (Rk 0 2 [(tI 28 c.part), (tP 1 0 0)] ag b fun dj cf => ?_)
     obtain ⟨x29, ex29, f⟩ := bnd f
     refine wl fun K hK => ?_
     refine wc [.c (.int .i64 c.part), .c (.int .i64 0), .c (.int .i64 15)] cf b (ref_In_ok n b.has c.part 0 15 ex29) fun dr cy dx bf az y => ?_
     obtain rfl := bf
     refine ⟨.one (.c (.bool x29)), rfl, fun cs (cg : Kn 58 [(a, 0)] [(tB 29 x29), (tI 28 c.part), (tP 1 0 0)] cs) => hK _ _ ?_⟩
     refine Rk 3 1 [(tB 30 x29), (tP 1 0 0)] cg y fun ba ax => ?_
     rcases Bool.eq_false_or_eq_true (x29) with u | u
     ·
      rw [u, cond_true] at f
      have ch : Kn 58 [(a, 0)] [(tB 30 true), (tP 1 0 0)] ba := (ax.setB 30 true (by rfl) u).kp
      refine Rk 4 5 [(tB 2 (c.sg == 0))] ch y fun dk ci => ?_
      refine wf ?_
      obtain rfl := Option.some.inj f
      exact Exists.intro _ ⟨_, rfl, ci.kp, y, az⟩
     ·
      rw [u, cond_false] at f
      have cj : Kn 58 [(a, 0)] [(tB 30 false), (tP 1 0 0)] ba := (ax.setB 30 false (by rfl) u).kp
      refine Rk 4 5 [(tB 2 false)] cj y fun dl ck => ?_
      refine wf ?_
      obtain rfl := Option.some.inj f
      exact Exists.intro _ ⟨_, rfl, ck.kp, y, az⟩
    ·
     rintro _ dy ⟨ai, ac, rfl, cl, cm, c1⟩
     refine wp_ret ?_
     obtain rfl := Option.some.inj H
     exact rt (.one (.c (.bool a0))) cl cm rfl
   ·
    rw [ae, cond_false] at H
    refine wp_skip (wp_seq (wp_region_from (Rk 0 4 [(tB 38 (c.part == 0)), (tP 1 0 0)] ag b fun a2 ak => ?_)))
    rcases Bool.eq_false_or_eq_true ((c.part == 0)) with j | j
    ·
     rw [j, cond_true] at H
     have bg : Kn 58 [(a, 0)] K80m2 a2 := (ak.setB 38 true (by rfl) j).kp
     refine Rk 4 4 ((tB 42 (c.kind.n == 2)) :: K80m2) bg b fun a3 al => ?_
     rcases Bool.eq_false_or_eq_true ((c.kind.n == 2)) with k | k
     ·
      rw [k, cond_true] at H
      have bh : Kn 58 [(a, 0)] ((tB 42 true) :: K80m2) a3 := (al.setB 42 true (by rfl) k).kp
      refine Rk 8 2 ((tI 44 c.sg) :: (tB 42 true) :: K80m2) bh b fun c2 am => ?_
      obtain ⟨x45, ex45, H⟩ := bnd H
      refine wpFrom_loud _ rfl (wantedS_sound am (by kernel_rfl)) fun K hK => ?_
      refine wc [.c (.int .i64 c.sg), .c (.int .i64 1), .c (.int .i64 999)] am b (ref_In_ok n b.has c.sg 1 999 ex45) fun dm cu ds bb cz e => ?_
      obtain rfl := bb
      refine ⟨.one (.c (.bool x45)), rfl, fun cn (bi : Kn 58 [(a, 0)] ((tB 45 x45) :: (tI 44 c.sg) :: (tB 42 true) :: K80m2) cn) => hK _ _ ?_⟩
      refine Rk 11 2 ((tB 47 x45) :: K80m2) bi e fun a4 an => ?_
      rcases Bool.eq_false_or_eq_true (x45) with l | l
      ·
       rw [l, cond_true] at H
       have bk : Kn 58 [(a, 0)] ((tB 47 true) :: K80m2) a4 := (an.setB 47 true (by rfl) l).kp
       refine Rk 13 11 [(tB 2 true)] bk e fun c4 bl => ?_
       refine wf (wp_ret ?_)
       obtain rfl := Option.some.inj H
       exact rt (.one (.c (.bool true))) bl e rfl
      ·
       rw [l, cond_false] at H
       have bm : Kn 58 [(a, 0)] K80m3 a4 := (an.setB 47 false (by rfl) l).kp
       refine Rk 13 4 ((tB 51 (c.kind.n == 3)) :: K80m3) bm e fun a5 ao => ?_
       rcases Bool.eq_false_or_eq_true ((c.kind.n == 3)) with m | m
       ·
        rw [m, cond_true] at H
        have bn : Kn 58 [(a, 0)] ((tB 51 true) :: K80m3) a5 := (ao.setB 51 true (by rfl) m).kp
        refine Rk 17 7 [(tB 2 (c.sg == 0))] bn e fun c5 bo => ?_
        refine wf (wp_ret ?_)
        obtain rfl := Option.some.inj H
        exact rt (.one (.c (.bool (c.sg == 0)))) bo e rfl
       ·
        rw [m, cond_false] at H
        have bp : Kn 58 [(a, 0)] ((tB 51 false) :: K80m3) a5 := (ao.setB 51 false (by rfl) m).kp
        refine Rk 17 7 [(tB 2 false)] bp e fun c6 bq => ?_
        refine wf (wp_ret ?_)
        obtain rfl := Option.some.inj H
        exact rt (.one (.c (.bool false))) bq e rfl
     ·
      rw [k, cond_false] at H
      have br : Kn 58 [(a, 0)] ((tB 42 false) :: K80m2) a3 := (al.setB 42 false (by rfl) k).kp
      refine Rk 8 9 ((tB 51 (c.kind.n == 3)) :: K80m3) br b fun a6 ap => ?_
      rcases Bool.eq_false_or_eq_true ((c.kind.n == 3)) with o | o
      ·
       rw [o, cond_true] at H
       have bs : Kn 58 [(a, 0)] ((tB 51 true) :: K80m3) a6 := (ap.setB 51 true (by rfl) o).kp
       refine Rk 17 7 [(tB 2 (c.sg == 0))] bs b fun c7 bt => ?_
       refine wf (wp_ret ?_)
       obtain rfl := Option.some.inj H
       exact rt (.one (.c (.bool (c.sg == 0)))) bt b rfl
      ·
       rw [o, cond_false] at H
       have bu : Kn 58 [(a, 0)] ((tB 51 false) :: K80m3) a6 := (ap.setB 51 false (by rfl) o).kp
       refine Rk 17 7 [(tB 2 false)] bu b fun c8 bv => ?_
       refine wf (wp_ret ?_)
       obtain rfl := Option.some.inj H
       exact rt (.one (.c (.bool false))) bv b rfl
    ·
     rw [j, cond_false] at H
     have bw : Kn 58 [(a, 0)] [(tB 38 false), (tP 1 0 0)] a2 := (ak.setB 38 false (by rfl) j).kp
     refine Rk 4 20 [(tB 2 false)] bw b fun c9 bx => ?_
     refine wf (wp_ret ?_)
     obtain rfl := Option.some.inj H
     exact rt (.one (.c (.bool false))) bx b rfl
abbrev K54c1 (x17 : Card) : List SC := [.int .i64 x17.bus, .int .i64 x17.number, .int .i64 x17.minute, .int .u8 x17.kind.n, .int .i64 x17.part, .int .i64 x17.sg]
abbrev K54c2 (x34 : Card) : List SC := [.int .i64 x34.bus, .int .i64 x34.number, .int .i64 x34.minute, .int .u8 x34.kind.n, .int .i64 x34.part, .int .i64 x34.sg]
abbrev K54c3 (x39 : Card) : List SC := [.int .i64 x39.bus, .int .i64 x39.number, .int .i64 x39.minute, .int .u8 x39.kind.n, .int .i64 x39.part, .int .i64 x39.sg]
abbrev K54c4 (x46 : Card) : List SC := [.int .i64 x46.bus, .int .i64 x46.number, .int .i64 x46.minute, .int .u8 x46.kind.n, .int .i64 x46.part, .int .i64 x46.sg]
abbrev K54c5 (x50 : Card) : List SC := [.int .i64 x50.bus, .int .i64 x50.number, .int .i64 x50.minute, .int .u8 x50.kind.n, .int .i64 x50.part, .int .i64 x50.sg]
abbrev K54m6 (x_v20 : Int) (a_l : Option Addr) (l : List Card) (c_l : Nat) : TM := [(tI 4 x_v20), (tS 0 a_l l.length c_l)]
set_option maxRecDepth 100000 in
set_option maxHeartbeats 4000000 in
theorem ref_Fault_ok (n : Nat) {h : Heap} {w : World} (hh : Has h w) (l : List Card) {a_l : Option Addr} {c_l : Nat} (hr_l : RepS h a_l c_l l) {r : Int} (H : ref_Fault n l = some r) :
  Calls Try.prog 54 #[.slice a_l l.length c_l] w (Ret (fun h v => v = .int .i64 r) h w) := by
 refine enter 54 [.c (.slice a_l l.length c_l)] Try.func54 rfl rfl rfl rfl fun t hk => ?_
 have hm := Mem.begin h w hh
 unfold ref_Fault at H
 refine wp_seq (wp_region_from (Rk 0 1 [(tS 0 a_l l.length c_l)] hk hm fun d7 cl => ?_))
 refine wf (wp_seq (wp_seq (wp_region_from (Rk 0 3 [(tB 8 (decide (((l.length : Nat) : Int) > 40))), (tS 0 a_l l.length c_l)] cl hm fun em aw => ?_))))
 refine wf (wC (decide (((l.length : Nat) : Int) > 40)) aw (fun ao => ?_) (fun ao => ?_))
 ·
  rw [ao, cond_true] at H
  refine wp_seq (wp_region_from (Rk 0 1 [(tI 2 3)] aw hm fun es cw => ?_))
  refine wf (wp_ret ?_)
  obtain rfl := Option.some.inj H
  exact rt (.one (.c (.int .i64 3))) cw hm rfl
 ·
  rw [ao, cond_false] at H
  refine wp_skip (wp_seq (wp_seq (wp_region_from (Rk 0 1 [(tI 3 0), (tS 0 a_l l.length c_l)] aw hm fun eu cz => ?_))))
  refine wf ?_
  obtain ⟨bm, bc, H⟩ := bnd H
  refine wp_mid' (fun a' w' => ∃ (bq : Unit) (a5 : Array Value) (p : Heap), a' = ⟨a5, []⟩ ∧ Kn 54 [] [(tS 0 a_l l.length c_l)] a5 ∧ Mem ⟨w, h, noX⟩ p [] [] [] w' ∧ Heap.le h p ∧ bm = .go bq) ?_ ?_
  ·
   refine wp_block ?_
   refine wp_loop_n (fun dq a' w' => ∃ (x_v10 : Int) (a6 : Array Value) (q : Heap), a' = ⟨a6, []⟩ ∧ Kn 54 [] [(tI 3 x_v10), (tS 0 a_l l.length c_l)] a6 ∧ Mem ⟨w, h, noX⟩ q [] [] [] w' ∧ Heap.le h q ∧ ref_Fault_l1 dq l x_v10 = some bm) n ?_ ?_
   ·
    exact Exists.intro 0 ⟨_, _, rfl, cz.kp, hm, (Heap.le_refl _), bc⟩
   ·
    rintro ad _ dz ⟨x_v10, a6, q, rfl, cm, ab, az, b⟩
    clear bc
    obtain _ | ad := ad
    ·
     rw [ref_Fault_l1] at b; cases b
    rw [ref_Fault_l1] at b
    replace hr_l := hr_l.mono az
    refine wp_seq (wp_seq (wp_region_from (Rk 0 4 [(tB 12 (decide (x_v10 < ((l.length : Nat) : Int)))), (tI 3 x_v10), (tS 0 a_l l.length c_l)] cm ab fun ek av => ?_)))
    refine wf (wC (decide (x_v10 < ((l.length : Nat) : Int))) av (fun an => ?_) (fun an => ?_))
    ·
     rw [an, cond_true] at b
     refine wp_skip (wp_seq (wp_block (wp_seq (wp_region_from (Rk 0 2 [(tI 16 x_v10), (tS 15 a_l l.length c_l), (tI 3 x_v10), (tS 0 a_l l.length c_l)] av ab fun el cn => ?_)))))
     obtain ⟨x17, ex17, b⟩ := bnd b
     obtain ⟨c8, dd, dp⟩ := idx_some ex17
     obtain ⟨ai, a4, d4, b0, di, b5⟩ := hr_l.get (by decide) dp
     obtain ⟨_, _, rfl, rfl, ⟨_, _, rfl, rfl, ⟨_, _, rfl, rfl, ⟨_, _, rfl, rfl, ⟨_, _, rfl, rfl, rfl⟩⟩⟩⟩⟩ := di
     have a3 : Mem ⟨w, h, noX⟩ q [(ai, a4 + (x_v10 : Int).toNat * 6)] [⟨(K54c1 x17), none⟩] [] dz := ab.addPlc (cs := (K54c1 x17)) (fun j c hj => b5 j _ (map_get hj)) rfl (by kernel_rfl) (by kernel_rfl)
     refine R_index 2 (x_v10) rfl rfl (rfl) rfl (by decide) cn (by rfl) (by rfl) (by rfl) b0 (by rfl) c8 dd (by kernel_rfl) fun dx (co : Kn 54 [(ai, a4 + (x_v10 : Int).toNat * 6)] [(tP 17 0 0), (tI 16 x_v10), (tS 15 a_l l.length c_l), (tI 3 x_v10), (tS 0 a_l l.length c_l)] dx) => ?_
     refine Rk 3 1 [(tA 18 (K54c1 x17)), (tI 3 x_v10), (tS 0 a_l l.length c_l)] co a3 fun en cp => ?_
     obtain ⟨x19, ex19, b⟩ := bnd b
     refine wl fun K hK => ?_
     refine wc [.agg (K54c1 x17)] cp a3 (ref_Right_ok ad a3.has x17 ((rep_pair rep_int (rep_pair rep_int (rep_pair rep_int (rep_pair rep_ik (rep_pair rep_int rep_int))))) : rep q x17 _) ex19) fun ex d5 e0 bu c2 y => ?_
     obtain rfl := bu
     refine ⟨.one (.c (.bool x19)), rfl, fun dy (cq : Kn 54 [(ai, a4 + (x_v10 : Int).toNat * 6)] [(tB 19 x19), (tA 18 (K54c1 x17)), (tI 3 x_v10), (tS 0 a_l l.length c_l)] dy) => hK _ _ ?_⟩
     refine Rk 5 1 [(tB 20 (!x19)), (tI 3 x_v10), (tS 0 a_l l.length c_l)] cq y fun eo ax => ?_
     refine wf (wC ((!x19)) ax (fun ap => ?_) (fun ap => ?_))
     ·
      rw [ap, cond_true] at b
      refine wp_seq (wp_region_from (Rk 0 1 [(tI 2 1)] ax y fun ep cr => ?_))
      refine wf (wp_ret ?_)
      obtain rfl := Option.some.inj b
      obtain rfl := Option.some.inj H
      exact rt (.one (.c (.int .i64 1))) cr y rfl
     ·
      rw [ap, cond_false] at b
      refine wp_skip (wp_region_from (Rk 0 3 [(tI 3 (IntKind.i64.wrap (x_v10 + 1))), (tS 0 a_l l.length c_l)] ax y fun er ct => ?_))
      refine wf ?_
      exact Exists.intro ad ⟨Nat.lt_succ_self _, Exists.intro (IntKind.i64.wrap (x_v10 + 1)) ⟨_, _, rfl, ((ct.keep [3, 0] (by rfl)).cut 0 (by kernel_rfl)), (y.cutPl 0 (by kernel_rfl)), (Heap.le_trans az c2), b⟩⟩
    ·
     rw [an, cond_false] at b
     refine wp_exit ?_
     obtain rfl := Option.some.inj b
     exact Exists.intro () ⟨_, _, rfl, av.kp, ab, az, rfl⟩
  ·
   rintro _ e1 ⟨bq, a5, p, rfl, cu, bl, c3, rfl⟩
   rw [Ex.bind_go] at H
   replace hr_l := hr_l.mono c3
   refine wp_seq (wp_seq (wp_region_from (Rk 0 1 [(tI 4 0), (tS 0 a_l l.length c_l)] cu bl fun et cv => ?_)))
   refine wf ?_
   obtain ⟨bo, bd, H⟩ := bnd H
   refine wp_mid' (fun a' w' => ∃ (br : Unit) (a7 : Array Value) (aj : Heap), a' = ⟨a7, []⟩ ∧ Kn 54 [] [] a7 ∧ Mem ⟨w, h, noX⟩ aj [] [] [] w' ∧ Heap.le p aj ∧ bo = .go br) ?_ ?_
   ·
    refine wp_block ?_
    refine wp_loop_n (fun dr a' w' => ∃ (x_v20 : Int) (a8 : Array Value) (s : Heap), a' = ⟨a8, []⟩ ∧ Kn 54 [] (K54m6 x_v20 a_l l c_l) a8 ∧ Mem ⟨w, h, noX⟩ s [] [] [] w' ∧ Heap.le p s ∧ ref_Fault_l2 dr l x_v20 = some bo) n ?_ ?_
    ·
     exact Exists.intro 0 ⟨_, _, rfl, cv.kp, bl, (Heap.le_refl _), bd⟩
    ·
     rintro ae _ e2 ⟨x_v20, a8, s, rfl, cx, ac, a0, d⟩
     clear bd
     obtain _ | ae := ae
     ·
      rw [ref_Fault_l2] at d; cases d
     rw [ref_Fault_l2] at d
     replace hr_l := hr_l.mono a0
     refine wp_seq (wp_seq (wp_region_from (Rk 0 4 ((tB 24 (decide (x_v20 < ((l.length : Nat) : Int)))) :: (K54m6 x_v20 a_l l c_l)) cx ac fun ev ay => ?_)))
     refine wf (wC (decide (x_v20 < ((l.length : Nat) : Int))) ay (fun aq => ?_) (fun aq => ?_))
     ·
      rw [aq, cond_true] at d
      refine wp_skip (wp_seq (wp_block (wp_seq (wp_region_from (Rk 0 1 ((tI 5 0) :: (K54m6 x_v20 a_l l c_l)) ay ac fun ew cy => ?_)))))
      refine wf ?_
      obtain ⟨bp, be, d⟩ := bnd d
      refine wp_mid' (fun a' w' => ∃ (bs : Unit) (a9 : Array Value) (ak : Heap), a' = ⟨a9, []⟩ ∧ Kn 54 [] (K54m6 x_v20 a_l l c_l) a9 ∧ Mem ⟨w, h, noX⟩ ak [] [] [] w' ∧ Heap.le s ak ∧ bp = .go bs) ?_ ?_
      ·
       refine wp_block ?_
       refine wp_loop_n (fun ds a' w' => ∃ (x_v30 : Int) (ba : Array Value) (k : Heap), a' = ⟨ba, []⟩ ∧ Kn 54 [] ((tI 5 x_v30) :: (K54m6 x_v20 a_l l c_l)) ba ∧ Mem ⟨w, h, noX⟩ k [] [] [] w' ∧ Heap.le s k ∧ ref_Fault_l3 ds l x_v20 x_v30 = some bp) ae ?_ ?_
       ·
        exact Exists.intro 0 ⟨_, _, rfl, cy.kp, ac, (Heap.le_refl _), be⟩
       ·
        rintro af _ ah ⟨x_v30, ba, k, rfl, c0, o, aa, a⟩
        clear be
        obtain _ | af := af
        ·
         rw [ref_Fault_l3] at a; cases a
        rw [ref_Fault_l3] at a
        replace hr_l := hr_l.mono aa
        refine wp_seq (wp_seq (wp_region_from (Rk 0 3 ((tB 29 (decide (x_v30 < x_v20))) :: (tI 5 x_v30) :: (K54m6 x_v20 a_l l c_l)) c0 o fun d8 ar => ?_)))
        refine wf (wC (decide (x_v30 < x_v20)) ar (fun al => ?_) (fun al => ?_))
        ·
         rw [al, cond_true] at a
         refine wp_skip (wp_seq (wp_block (wp_seq (wp_region_G (by kernel_rfl) ?_))))
         replace o := o.drew
         refine wpG_of_D [] [] [] ?_
         refine Dr [0, 1] [1, 0] ((tI 33 x_v20) :: (tS 32 a_l l.length c_l) :: (tI 5 x_v30) :: (K54m6 x_v20 a_l l c_l)) ar o fun d9 b6 => ?_
         obtain ⟨x34, ex34, a⟩ := bnd a
         obtain ⟨c4, c9, dj⟩ := idx_some ex34
         obtain ⟨e, f, d0, bv, de, b1⟩ := hr_l.get (by decide) dj
         obtain ⟨_, _, rfl, rfl, ⟨_, _, rfl, rfl, ⟨_, _, rfl, rfl, ⟨_, _, rfl, rfl, ⟨_, _, rfl, rfl, rfl⟩⟩⟩⟩⟩ := de
         have a1 : Mem ⟨w, h, noX⟩ k [(e, f + (x_v20 : Int).toNat * 6)] [⟨(K54c2 x34), none⟩] [] (World.drew ah) := o.addPlc (cs := (K54c2 x34)) (fun j c hj => b1 j _ (map_get hj)) rfl (by kernel_rfl) (by kernel_rfl)
         refine D_index 2 (x_v20) (K54c2 x34) (fun _ _ _ _ _ h => h) rfl rfl (rfl) rfl (by decide) (by kernel_rfl) (by kernel_rfl) b6 o.plOk (by rfl) (by rfl) (by rfl) bv (by rfl) c4 c9 (by kernel_rfl) fun dt (b7 : Kn 54 [(e, f + (x_v20 : Int).toNat * 6)] ((tP 34 0 0) :: (tI 33 x_v20) :: (tS 32 a_l l.length c_l) :: (tI 5 x_v30) :: (K54m6 x_v20 a_l l c_l)) dt) => ?_
         refine Dr [3, 4, 5, 6] (dn 6) ((tI 38 x_v30) :: (tS 37 a_l l.length c_l) :: (tI 36 x34.number) :: (tI 5 x_v30) :: (K54m6 x_v20 a_l l c_l)) b7 a1 fun ea b8 => ?_
         obtain ⟨x39, ex39, a⟩ := bnd a
         obtain ⟨c5, da, dk⟩ := idx_some ex39
         obtain ⟨g, i, d1, bw, df, b2⟩ := hr_l.get (by decide) dk
         obtain ⟨_, _, rfl, rfl, ⟨_, _, rfl, rfl, ⟨_, _, rfl, rfl, ⟨_, _, rfl, rfl, ⟨_, _, rfl, rfl, rfl⟩⟩⟩⟩⟩ := df
         have m : Mem ⟨w, h, noX⟩ k [(e, f + (x_v20 : Int).toNat * 6), (g, i + (x_v30 : Int).toNat * 6)] [⟨(K54c2 x34), none⟩, ⟨(K54c3 x39), none⟩] [] (World.drew ah) := a1.addPlc (cs := (K54c3 x39)) (fun j c hj => b2 j _ (map_get hj)) rfl (by kernel_rfl) (by kernel_rfl)
         refine D_index 7 (x_v30) (K54c3 x39) (fun _ _ _ _ _ h => h) rfl rfl (rfl) rfl (by decide) (by kernel_rfl) (by kernel_rfl) b8 a1.plOk (by rfl) (by rfl) (by rfl) bw (by rfl) c5 da (by kernel_rfl) fun du (b9 : Kn 54 [(e, f + (x_v20 : Int).toNat * 6), (g, i + (x_v30 : Int).toNat * 6)] ((tP 39 1 0) :: (tI 38 x_v30) :: (tS 37 a_l l.length c_l) :: (tI 36 x34.number) :: (tI 5 x_v30) :: (K54m6 x_v20 a_l l c_l)) du) => ?_
         refine Dr [8, 9, 10, 11] (dn 11) ((tB 43 (x34.number == x39.number)) :: (tI 5 x_v30) :: (K54m6 x_v20 a_l l c_l)) b9 m fun bt bf => ?_
         rcases Bool.eq_false_or_eq_true ((x34.number == x39.number)) with u | u
         ·
          rw [u, cond_true] at a
          have ca : Kn 54 [(e, f + (x_v20 : Int).toNat * 6), (g, i + (x_v30 : Int).toNat * 6)] ((tB 43 true) :: (tI 5 x_v30) :: (K54m6 x_v20 a_l l c_l)) bt := (bf.setB 43 true (by rfl) u).kp
          refine Dr [12, 13] (dn 13) ((tI 45 x_v20) :: (tS 44 a_l l.length c_l) :: (tB 43 true) :: (tI 5 x_v30) :: (K54m6 x_v20 a_l l c_l)) ca m fun eb bg => ?_
          obtain ⟨x46, ex46, a⟩ := bnd a
          obtain ⟨c6, db, dl⟩ := idx_some ex46
          obtain ⟨z, ag, d2, bx, dg, b3⟩ := hr_l.get (by decide) dl
          obtain ⟨_, _, rfl, rfl, ⟨_, _, rfl, rfl, ⟨_, _, rfl, rfl, ⟨_, _, rfl, rfl, ⟨_, _, rfl, rfl, rfl⟩⟩⟩⟩⟩ := dg
          have a2 : Mem ⟨w, h, noX⟩ k [(e, f + (x_v20 : Int).toNat * 6), (g, i + (x_v30 : Int).toNat * 6), (z, ag + (x_v20 : Int).toNat * 6)] [⟨(K54c2 x34), none⟩, ⟨(K54c3 x39), none⟩, ⟨(K54c4 x46), none⟩] [] (World.drew ah) := m.addPlc (cs := (K54c4 x46)) (fun j c hj => b3 j _ (map_get hj)) rfl (by kernel_rfl) (by kernel_rfl)
          refine D_index 14 (x_v20) (K54c4 x46) (fun _ _ _ _ _ h => h) rfl rfl (wantedS_sound bg (by kernel_rfl)) rfl (by decide) (by kernel_rfl) (by kernel_rfl) bg m.plOk (by rfl) (by rfl) (by rfl) bx (by rfl) c6 db (by kernel_rfl) fun dv (cb : Kn 54 [(e, f + (x_v20 : Int).toNat * 6), (g, i + (x_v30 : Int).toNat * 6), (z, ag + (x_v20 : Int).toNat * 6)] ((tP 46 2 0) :: (tI 45 x_v20) :: (tS 44 a_l l.length c_l) :: (tB 43 true) :: (tI 5 x_v30) :: (K54m6 x_v20 a_l l c_l)) dv) => ?_
          refine Dr [15, 16, 17] (dn 17) ((tI 49 x_v30) :: (tS 48 a_l l.length c_l) :: (tA 47 (K54c4 x46)) :: (tB 43 true) :: (tI 5 x_v30) :: (K54m6 x_v20 a_l l c_l)) cb a2 fun ec bh => ?_
          obtain ⟨x50, ex50, a⟩ := bnd a
          obtain ⟨c7, dc, dm⟩ := idx_some ex50
          obtain ⟨bb, bn, d3, bz, dh, b4⟩ := hr_l.get (by decide) dm
          obtain ⟨_, _, rfl, rfl, ⟨_, _, rfl, rfl, ⟨_, _, rfl, rfl, ⟨_, _, rfl, rfl, ⟨_, _, rfl, rfl, rfl⟩⟩⟩⟩⟩ := dh
          have x : Mem ⟨w, h, noX⟩ k [(e, f + (x_v20 : Int).toNat * 6), (g, i + (x_v30 : Int).toNat * 6), (z, ag + (x_v20 : Int).toNat * 6), (bb, bn + (x_v30 : Int).toNat * 6)] [⟨(K54c2 x34), none⟩, ⟨(K54c3 x39), none⟩, ⟨(K54c4 x46), none⟩, ⟨(K54c5 x50), none⟩] [] (World.drew ah) := a2.addPlc (cs := (K54c5 x50)) (fun j c hj => b4 j _ (map_get hj)) rfl (by kernel_rfl) (by kernel_rfl)
          refine D_index 18 (x_v30) (K54c5 x50) (fun _ _ _ _ _ h => h) rfl rfl (wantedS_sound bh (by kernel_rfl)) rfl (by decide) (by kernel_rfl) (by kernel_rfl) bh a2.plOk (by rfl) (by rfl) (by rfl) bz (by rfl) c7 dc (by kernel_rfl) fun dw (cc : Kn 54 [(e, f + (x_v20 : Int).toNat * 6), (g, i + (x_v30 : Int).toNat * 6), (z, ag + (x_v20 : Int).toNat * 6), (bb, bn + (x_v30 : Int).toNat * 6)] ((tP 50 3 0) :: (tI 49 x_v30) :: (tS 48 a_l l.length c_l) :: (tA 47 (K54c4 x46)) :: (tB 43 true) :: (tI 5 x_v30) :: (K54m6 x_v20 a_l l c_l)) dw) => ?_
          refine Dr [19, 20, 21] (dn 21) ((tB 53 (!((x46.bus == x50.bus) && ((x46.number == x50.number) && ((x46.minute == x50.minute) && ((x46.kind.n == x50.kind.n) && ((x46.part == x50.part) && ((x46.sg == x50.sg) && true)))))))) :: (tI 5 x_v30) :: (K54m6 x_v20 a_l l c_l)) cc x fun ed au => ?_
          refine wpD_end (by kernel_rfl) (wC ((!((x46.bus == x50.bus) && ((x46.number == x50.number) && ((x46.minute == x50.minute) && ((x46.kind.n == x50.kind.n) && ((x46.part == x50.part) && ((x46.sg == x50.sg) && true)))))))) au (fun am => ?_) (fun am => ?_))
          ·
           rw [am, cond_true] at a
           refine wp_seq (wp_region_from (Rk 0 1 [(tI 2 6)] au x fun ee cd => ?_))
           refine wf (wp_ret ?_)
           obtain rfl := Option.some.inj a
           obtain rfl := Option.some.inj d
           obtain rfl := Option.some.inj H
           exact rt (.one (.c (.int .i64 6))) cd x rfl
          ·
           rw [am, cond_false] at a
           refine wp_skip (wp_region_from (Rk 0 3 ((tI 5 (IntKind.i64.wrap (x_v30 + 1))) :: (K54m6 x_v20 a_l l c_l)) au x fun ef ce => ?_))
           refine wf ?_
           exact Exists.intro af ⟨Nat.lt_succ_self _, Exists.intro (IntKind.i64.wrap (x_v30 + 1)) ⟨_, _, rfl, ((ce.keep [5, 4, 0] (by rfl)).cut 0 (by kernel_rfl)), (x.cutPl 0 (by kernel_rfl)), aa, a⟩⟩
         ·
          rw [u, cond_false] at a
          have cf : Kn 54 [(e, f + (x_v20 : Int).toNat * 6), (g, i + (x_v30 : Int).toNat * 6)] ((tB 43 false) :: (tI 5 x_v30) :: (K54m6 x_v20 a_l l c_l)) bt := (bf.setB 43 false (by rfl) u).kp
          refine Dr [12, 13, 14, 15, 16, 17, 18, 19, 20, 21] (dn 21) ((tB 53 false) :: (tI 5 x_v30) :: (K54m6 x_v20 a_l l c_l)) cf m fun eg bi => ?_
          refine wpD_end (by kernel_rfl) (wC false bi (fun hb => ?_) (fun hb => ?_))
          ·
           cases hb
          refine wp_skip (wp_region_from (Rk 0 3 ((tI 5 (IntKind.i64.wrap (x_v30 + 1))) :: (K54m6 x_v20 a_l l c_l)) bi m fun eh cg => ?_))
          refine wf ?_
          exact Exists.intro af ⟨Nat.lt_succ_self _, Exists.intro (IntKind.i64.wrap (x_v30 + 1)) ⟨_, _, rfl, ((cg.keep [5, 4, 0] (by rfl)).cut 0 (by kernel_rfl)), (m.cutPl 0 (by kernel_rfl)), aa, a⟩⟩
        ·
         rw [al, cond_false] at a
         refine wp_exit ?_
         obtain rfl := Option.some.inj a
         exact Exists.intro () ⟨_, _, rfl, ar.kp, o, aa, rfl⟩
      ·
       rintro _ ey ⟨bs, a9, ak, rfl, ch, bj, c1, rfl⟩
       rw [Ex.bind_go] at d
       refine wp_region_from (Rk 0 3 [(tI 4 (IntKind.i64.wrap (x_v20 + 1))), (tS 0 a_l l.length c_l)] ch bj fun ei ci => ?_)
       refine wf ?_
       exact Exists.intro ae ⟨Nat.lt_succ_self _, Exists.intro (IntKind.i64.wrap (x_v20 + 1)) ⟨_, _, rfl, ci.kp, bj, (Heap.le_trans a0 c1), d⟩⟩
     ·
      rw [aq, cond_false] at d
      refine wp_exit ?_
      obtain rfl := Option.some.inj d
      exact Exists.intro () ⟨_, _, rfl, ay.kp, ac, a0, rfl⟩
   ·
    rintro _ ez ⟨br, a7, aj, rfl, cj, bk, d6, rfl⟩
    rw [Ex.bind_go] at H
    refine wp_seq (wp_region_from (Rk 0 1 [(tI 2 0)] cj bk fun ej ck => ?_))
    refine wf (wp_ret ?_)
    obtain rfl := Option.some.inj H
    exact rt (.one (.c (.int .i64 0))) ck bk rfl
set_option maxRecDepth 100000 in
set_option maxHeartbeats 4000000 in
theorem law_ready_ok (n : Nat) {h : Heap} {w : World} (hh : Has h w) (l : List Card) {a_l : Option Addr} {c_l : Nat} (hr_l : RepS h a_l c_l l) {r : Bool} (H : law_ready n l = some r) :
  Calls Try.prog 16 #[.slice a_l l.length c_l] w (Ret (fun h v => v = .bool r) h w) := by
 refine enter 11 [.c (.slice a_l l.length c_l)] Try.func16 rfl rfl rfl rfl fun t hk => ?_
 have hm := Mem.begin h w hh
 unfold law_ready at H
 refine wp_seq (wp_region_from (Rk 0 1 [(tS 0 a_l l.length c_l)] hk hm fun x m => ?_))
 refine wf (wp_seq (wp_region_from (Rk 0 4 [(tB 6 (decide (((l.length : Nat) : Int) ≤ 40))), (tS 0 a_l l.length c_l)] m hm fun f b => ?_)))
 rcases Bool.eq_false_or_eq_true (decide (((l.length : Nat) : Int) ≤ 40)) with a | a
 ·
  rw [a, cond_true] at H
  have p : Kn 11 [] [(tB 6 true), (tS 0 a_l l.length c_l)] f := (b.setB 6 true (by rfl) a).kp
  refine Rk 4 1 [(tS 7 a_l l.length c_l), (tB 6 true)] p hm fun aa d => ?_
  obtain ⟨x8, ex8, H⟩ := bnd H
  refine wpFrom_loud _ rfl (wantedS_sound d (by kernel_rfl)) fun K hK => ?_
  refine wc [.c (.slice a_l l.length c_l)] d hm (ref_Fault_ok n hm.has l hr_l ex8) fun ab s ac g u e => ?_
  obtain rfl := g
  refine ⟨.one (.c (.int .i64 x8)), rfl, fun q (i : Kn 11 [] [(tI 8 x8), (tS 7 a_l l.length c_l), (tB 6 true)] q) => hK _ _ ?_⟩
  refine Rk 6 3 [(tB 2 (x8 == 0))] i e fun y j => ?_
  refine wf (wp_ret ?_)
  obtain rfl := Option.some.inj H
  exact rt (.one (.c (.bool (x8 == 0)))) j e rfl
 ·
  rw [a, cond_false] at H
  have k : Kn 11 [] [(tB 6 false), (tS 0 a_l l.length c_l)] f := (b.setB 6 false (by rfl) a).kp
  refine Rk 4 5 [(tB 2 false)] k hm fun z o => ?_
  refine wf (wp_ret ?_)
  obtain rfl := Option.some.inj H
  exact rt (.one (.c (.bool false))) o hm rfl
abbrev K23m1 (a_a : Option Addr) (a : List Int) (c_a : Nat) (a_b : Option Addr) (b : List Int) (c_b : Nat) : TM := [(tS 0 a_a a.length c_a), (tS 1 a_b b.length c_b)]
set_option maxRecDepth 100000 in
set_option maxHeartbeats 4000000 in
theorem law_ints_ok (n : Nat) {h : Heap} {w : World} (hh : Has h w) (a : List Int) {a_a : Option Addr} {c_a : Nat} (hr_a : RepS h a_a c_a a) (b : List Int) {a_b : Option Addr} {c_b : Nat} (hr_b : RepS h a_b c_b b) {r : Bool} (H : law_ints n a b = some r) :
  Calls Try.prog 23 #[.slice a_a a.length c_a, .slice a_b b.length c_b] w (Ret (fun h v => v = .bool r) h w) := by
 refine enter 26 [.c (.slice a_a a.length c_a), .c (.slice a_b b.length c_b)] Try.func23 rfl rfl rfl rfl fun t hk => ?_
 have hm := Mem.begin h w hh
 unfold law_ints at H
 refine wp_seq (wp_region_from (Rk 0 1 (K23m1 a_a a c_a a_b b c_b) hk hm fun bf an => ?_))
 refine wf (wp_seq (wp_seq (wp_region_from (Rk 0 5 ((tB 10 (((a.length : Nat) : Int) != ((b.length : Nat) : Int))) :: (K23m1 a_a a c_a a_b b c_b)) an hm fun bi u => ?_))))
 refine wf (wC ((((a.length : Nat) : Int) != ((b.length : Nat) : Int))) u (fun p => ?_) (fun p => ?_))
 ·
  rw [p, cond_true] at H
  refine wp_seq (wp_region_from (Rk 0 1 [(tB 4 false)] u hm fun bm az => ?_))
  refine wf (wp_ret ?_)
  obtain rfl := Option.some.inj H
  exact rt (.one (.c (.bool false))) az hm rfl
 ·
  rw [p, cond_false] at H
  refine wp_skip (wp_seq (wp_seq (wp_region_from (Rk 0 1 ((tI 5 0) :: (K23m1 a_a a c_a a_b b c_b)) u hm fun bp a0 => ?_))))
  refine wf ?_
  obtain ⟨af, ad, H⟩ := bnd H
  refine wp_mid' (fun a' w' => ∃ (ah : Unit) (aa : Array Value) (m : Heap), a' = ⟨aa, []⟩ ∧ Kn 26 [] [] aa ∧ Mem ⟨w, h, noX⟩ m [] [] [] w' ∧ Heap.le h m ∧ af = .go ah) ?_ ?_
  ·
   refine wp_block ?_
   refine wp_loop_n (fun a9 a' w' => ∃ (x_v10 : Int) (ab : Array Value) (f : Heap), a' = ⟨ab, []⟩ ∧ Kn 26 [] ((tI 5 x_v10) :: (K23m1 a_a a c_a a_b b c_b)) ab ∧ Mem ⟨w, h, noX⟩ f [] [] [] w' ∧ Heap.le h f ∧ law_ints_l1 a9 a b x_v10 = some af) n ?_ ?_
   ·
    exact Exists.intro 0 ⟨_, _, rfl, a0.kp, hm, (Heap.le_refl _), ad⟩
   ·
    rintro z _ ai ⟨x_v10, ab, f, rfl, ao, e, k, d⟩
    clear ad
    obtain _ | z := z
    ·
     rw [law_ints_l1] at d; cases d
    rw [law_ints_l1] at d
    replace hr_a := hr_a.mono k
    replace hr_b := hr_b.mono k
    refine wp_seq (wp_seq (wp_region_from (Rk 0 4 ((tB 14 (decide (x_v10 < ((a.length : Nat) : Int)))) :: (tI 5 x_v10) :: (K23m1 a_a a c_a a_b b c_b)) ao e fun bg s => ?_)))
    refine wf (wC (decide (x_v10 < ((a.length : Nat) : Int))) s (fun o => ?_) (fun o => ?_))
    ·
     rw [o, cond_true] at d
     refine wp_skip (wp_seq (wp_block (wp_seq (wp_region_G (by kernel_rfl) ?_))))
     replace e := e.drew
     refine wpG_of_D [] [] [] ?_
     refine Dr [0, 1] [1, 0] ((tI 18 x_v10) :: (tS 17 a_a a.length c_a) :: (tI 5 x_v10) :: (K23m1 a_a a c_a a_b b c_b)) s e fun bh ap => ?_
     obtain ⟨x19, ex19, d⟩ := bnd d
     obtain ⟨a1, a3, a7⟩ := idx_some ex19
     obtain ⟨i, l, bc, aj, a5, al⟩ := hr_a.get (by decide) a7
     obtain rfl := a5
     have y : Mem ⟨w, h, noX⟩ f [(i, l + (x_v10 : Int).toNat * 1)] [⟨[.int .i64 x19], none⟩] [] (World.drew ai) := e.addPlc (cs := [.int .i64 x19]) (fun j c hj => al j _ (map_get hj)) rfl (by kernel_rfl) (by kernel_rfl)
     refine D_index 2 (x_v10) [.int .i64 x19] (fun _ _ _ _ _ h => h) rfl rfl (rfl) rfl (by decide) (by kernel_rfl) (by kernel_rfl) ap e.plOk (by rfl) (by rfl) (by rfl) aj (by rfl) a1 a3 (by kernel_rfl) fun ba (aq : Kn 26 [(i, l + (x_v10 : Int).toNat * 1)] ((tP 19 0 0) :: (tI 18 x_v10) :: (tS 17 a_a a.length c_a) :: (tI 5 x_v10) :: (K23m1 a_a a c_a a_b b c_b)) ba) => ?_
     refine Dr [3, 4, 5] (dn 5) ((tI 22 x_v10) :: (tS 21 a_b b.length c_b) :: (tI 20 x19) :: (tI 5 x_v10) :: (K23m1 a_a a c_a a_b b c_b)) aq y fun bj ar => ?_
     obtain ⟨x23, ex23, d⟩ := bnd d
     obtain ⟨a2, a4, a8⟩ := idx_some ex23
     obtain ⟨ac, ag, bd, ak, a6, am⟩ := hr_b.get (by decide) a8
     obtain rfl := a6
     have g : Mem ⟨w, h, noX⟩ f [(i, l + (x_v10 : Int).toNat * 1), (ac, ag + (x_v10 : Int).toNat * 1)] [⟨[.int .i64 x19], none⟩, ⟨[.int .i64 x23], none⟩] [] (World.drew ai) := y.addPlc (cs := [.int .i64 x23]) (fun j c hj => am j _ (map_get hj)) rfl (by kernel_rfl) (by kernel_rfl)
     refine D_index 6 (x_v10) [.int .i64 x23] (fun _ _ _ _ _ h => h) rfl rfl (rfl) rfl (by decide) (by kernel_rfl) (by kernel_rfl) ar y.plOk (by rfl) (by rfl) (by rfl) ak (by rfl) a2 a4 (by kernel_rfl) fun bb (au : Kn 26 [(i, l + (x_v10 : Int).toNat * 1), (ac, ag + (x_v10 : Int).toNat * 1)] ((tP 23 1 0) :: (tI 22 x_v10) :: (tS 21 a_b b.length c_b) :: (tI 20 x19) :: (tI 5 x_v10) :: (K23m1 a_a a c_a a_b b c_b)) bb) => ?_
     refine Dr [7, 8] (dn 8) ((tB 25 (x19 != x23)) :: (tI 5 x_v10) :: (K23m1 a_a a c_a a_b b c_b)) au g fun bk x => ?_
     refine wpD_end (by kernel_rfl) (wC ((x19 != x23)) x (fun q => ?_) (fun q => ?_))
     ·
      rw [q, cond_true] at d
      refine wp_seq (wp_region_from (Rk 0 1 [(tB 4 false)] x g fun bl av => ?_))
      refine wf (wp_ret ?_)
      obtain rfl := Option.some.inj d
      obtain rfl := Option.some.inj H
      exact rt (.one (.c (.bool false))) av g rfl
     ·
      rw [q, cond_false] at d
      refine wp_skip (wp_region_from (Rk 0 3 ((tI 5 (IntKind.i64.wrap (x_v10 + 1))) :: (K23m1 a_a a c_a a_b b c_b)) x g fun bn aw => ?_))
      refine wf ?_
      exact Exists.intro z ⟨Nat.lt_succ_self _, Exists.intro (IntKind.i64.wrap (x_v10 + 1)) ⟨_, _, rfl, ((aw.keep [5, 0, 1] (by rfl)).cut 0 (by kernel_rfl)), (g.cutPl 0 (by kernel_rfl)), k, d⟩⟩
    ·
     rw [o, cond_false] at d
     refine wp_exit ?_
     obtain rfl := Option.some.inj d
     exact Exists.intro () ⟨_, _, rfl, s.kp, e, k, rfl⟩
  ·
   rintro _ bq ⟨ah, aa, m, rfl, ax, ae, be, rfl⟩
   rw [Ex.bind_go] at H
   refine wp_seq (wp_region_from (Rk 0 1 [(tB 4 true)] ax ae fun bo ay => ?_))
   refine wf (wp_ret ?_)
   obtain rfl := Option.some.inj H
   exact rt (.one (.c (.bool true))) ay ae rfl
set_option maxRecDepth 100000 in
set_option maxHeartbeats 4000000 in
theorem law_minuted_ok (n : Nat) {h : Heap} {w : World} (hh : Has h w) (n_ : IK .u32) {r : Int} (H : law_minuted n n_ = some r) :
  Calls Try.prog 18 #[.int .u32 n_.n] w (Ret (fun h v => v = .int .i64 r) h w) := by
 refine enter 6 [.c (.int .u32 n_.n)] Try.func18 rfl rfl rfl rfl fun t hk => ?_
 have hm := Mem.begin h w hh
 unfold law_minuted at H
 refine wp_seq (wp_region_from (Rk 0 1 [(0, .one (.c (.int .u32 n_.n)))] hk hm fun d a => ?_))
 refine wf (wp_seq (wp_region_from (Rk 0 4 [(tI 2 (Int.tmod (IntKind.i64.wrap n_.n) 1000001))] a hm fun e b => ?_)))
 refine wf (wp_ret ?_)
 obtain rfl := Option.some.inj H
 exact rt (.one (.c (.int .i64 (Int.tmod (IntKind.i64.wrap n_.n) 1000001)))) b hm rfl
abbrev K59c1 (c : Card) : List SC := [.int .i64 c.bus, .int .i64 c.number, .int .i64 c.minute, .int .u8 c.kind.n, .int .i64 c.part, .int .i64 c.sg]
set_option maxRecDepth 100000 in
set_option maxHeartbeats 4000000 in
theorem law_card_ok (n : Nat) {h : Heap} {w : World} (hh : Has h w) (c : Card) {cs_c : List Value} (hx_c : rep h c cs_c) {r : Card} (H : law_card n c = some r) :
  Calls Try.prog 59 #[.agg cs_c.toArray] w (Ret (fun h v => ∃ cs, v = .agg cs.toArray ∧ rep h r cs) h w) := by
 obtain ⟨_, _, rfl, rfl, ⟨_, _, rfl, rfl, ⟨_, _, rfl, rfl, ⟨_, _, rfl, rfl, ⟨_, _, rfl, rfl, rfl⟩⟩⟩⟩⟩ := hx_c
 refine enter 16 [.agg (K59c1 c)] Try.func59 rfl rfl rfl rfl fun t hk => ?_
 have hm := Mem.begin h w hh
 unfold law_card at H
 refine wp_seq (wp_region_from (wl fun K hK => ?_))
 refine wb (.agg (K59c1 c)) hk hm fun a q u (k : Kn 16 [(a, 0)] [(tP 1 0 0), (tA 0 (K59c1 c))] q) (o : Mem ⟨w, h, noX⟩ h [(a, 0)] [⟨(K59c1 c), some 24⟩] [] u) => hK _ _ ?_
 refine wl fun K hK => ?_
 refine wa [.int .i64 0, .int .i64 0, .int .i64 0, .int .u8 0, .int .i64 0, .int .i64 0] k o fun b e x (l : Kn 16 [(a, 0), (b, 0)] [(tP 2 1 0), (tP 1 0 0), (tA 0 (K59c1 c))] e) (d : Mem ⟨w, h, noX⟩ h [(a, 0), (b, 0)] [⟨(K59c1 c), some 24⟩, ⟨[.int .i64 0, .int .i64 0, .int .i64 0, .int .u8 0, .int .i64 0, .int .i64 0], some 99⟩] [] x) => hK _ _ ?_
 have f : Kn 16 [(a, 0), (b, 0)] [(tP 2 1 0), (tP 1 0 0)] e := l.kp
 refine wf (wp_seq (wp_region_from (Rk 0 13 [(tA 15 (K59c1 c)), (tP 2 1 0)] f d fun p g => ?_)))
 refine wl fun K hK => ?_
 refine wst 1 0 (.agg (K59c1 c)) (K59c1 c) g d fun s i (m : Mem ⟨w, h, noX⟩ h [(a, 0), (b, 0)] [⟨(K59c1 c), some 24⟩, ⟨(K59c1 c), some 99⟩] [] s) => hK _ _ ?_
 have j : Kn 16 [(a, 0), (b, 0)] [(tP 2 1 0)] p := i.kp
 refine wf (wp_ret ?_)
 obtain rfl := Option.some.inj H
 exact rt (.one (.agg (K59c1 c))) j m ⟨_, rfl, ((rep_pair rep_int (rep_pair rep_int (rep_pair rep_int (rep_pair rep_ik (rep_pair rep_int rep_int))))) : rep h (c : Card) _)⟩
abbrev K20c1 (x14 : Card) : List SC := [.int .i64 x14.bus, .int .i64 x14.number, .int .i64 x14.minute, .int .u8 x14.kind.n, .int .i64 x14.part, .int .i64 x14.sg]
abbrev K20c2 (x16 : Card) : List SC := [.int .i64 x16.bus, .int .i64 x16.number, .int .i64 x16.minute, .int .u8 x16.kind.n, .int .i64 x16.part, .int .i64 x16.sg]
set_option maxRecDepth 100000 in
set_option maxHeartbeats 4000000 in
theorem law_Cards_ok (n : Nat) {h : Heap} {w : World} (hh : Has h w) (l : List Card) {a_l : Option Addr} {c_l : Nat} (hr_l : RepS h a_l c_l l) {r : List Card} (H : law_Cards n l = some r) :
  Calls Try.prog 20 #[.slice a_l l.length c_l] w (Ret (fun h v => ∃ a c, v = .slice a r.length c ∧ RepS h a c r) h w) := by
 refine enter 20 [.c (.slice a_l l.length c_l)] Try.func20 rfl rfl rfl rfl fun t hk => ?_
 have hm := Mem.begin h w hh
 unfold law_Cards at H
 refine wp_seq (wp_region_from (Rk 0 1 [(tS 0 a_l l.length c_l)] hk hm fun b3 a3 => ?_))
 refine wf (wp_seq (wp_region_from (Rk 0 1 [(tS 3 none 0 0), (tS 0 a_l l.length c_l)] a3 hm fun b4 a6 => ?_)))
 refine wf (wp_seq (wp_seq (wp_region_from (Rk 0 1 [(tI 4 0), (tS 3 none 0 0), (tS 0 a_l l.length c_l)] a6 hm fun b8 ba => ?_))))
 refine wf ?_
 have bk : Mem ⟨w, h, noX⟩ h [] [] [⟨none, 0, 0, 99, 6, [], 0⟩] w := hm.nilRow 99 6
 have a1 : Cells h ([] : List Card) [] := Cells.nil
 obtain ⟨g, aq, H⟩ := bnd H
 refine wp_mid' (fun a' w' => ∃ (k : Option Addr) (o : Nat) (y : List Value) (ao : Array Value) (aa : Heap), a' = ⟨ao, []⟩ ∧ Kn 20 [] [(tS 3 k g.length o)] ao ∧ Mem ⟨w, h, noX⟩ aa [] [] [⟨k, g.length, o, 99, 6, y, 0⟩] w' ∧ Heap.le h aa ∧ Cells aa g y) ?_ ?_
 ·
  refine wp_block ?_
  refine wp_loop_n (fun br a' w' => ∃ (x_v10 : List Card) (x_v11 : Int) (b : Option Addr) (d : Nat) (f : List Value) (ap : Array Value) (q : Heap), a' = ⟨ap, []⟩ ∧ Kn 20 [] [(tI 4 x_v11), (tS 3 b x_v10.length d), (tS 0 a_l l.length c_l)] ap ∧ Mem ⟨w, h, noX⟩ q [] [] [⟨b, x_v10.length, d, 99, 6, f, 0⟩] w' ∧ Heap.le h q ∧ Cells q x_v10 f ∧ law_Cards_l1 br l x_v10 x_v11 = some g) n ?_ ?_
  ·
   exact Exists.intro ([] : List Card) ⟨0, none, 0, ([]), _, _, rfl, ba.kp, bk, (Heap.le_refl _), a1, aq⟩
  ·
   rintro ad _ bw ⟨x_v10, x_v11, b, d, f, ap, q, rfl, a4, ac, ai, ab, e⟩
   clear aq
   obtain _ | ad := ad
   ·
    rw [law_Cards_l1] at e; cases e
   rw [law_Cards_l1] at e
   replace hr_l := hr_l.mono ai
   refine wp_seq (wp_seq (wp_region_from (Rk 0 4 [(tB 8 (decide (x_v11 < ((l.length : Nat) : Int)))), (tI 4 x_v11), (tS 3 b x_v10.length d), (tS 0 a_l l.length c_l)] a4 ac fun b5 ah => ?_)))
   refine wf (wC (decide (x_v11 < ((l.length : Nat) : Int))) ah (fun ae => ?_) (fun ae => ?_))
   ·
    rw [ae, cond_true] at e
    refine wp_skip (wp_seq (wp_block (wp_region_from (Rk 0 3 [(tI 13 x_v11), (tS 12 a_l l.length c_l), (tS 11 b x_v10.length d), (tI 4 x_v11), (tS 0 a_l l.length c_l)] ah ac fun b6 a5 => ?_))))
    obtain ⟨x14, ex14, e⟩ := bnd e
    obtain ⟨bl, bm, bq⟩ := idx_some ex14
    obtain ⟨m, p, b1, ay, bp, az⟩ := hr_l.get (by decide) bq
    obtain ⟨_, _, rfl, rfl, ⟨_, _, rfl, rfl, ⟨_, _, rfl, rfl, ⟨_, _, rfl, rfl, ⟨_, _, rfl, rfl, rfl⟩⟩⟩⟩⟩ := bp
    have aj : Mem ⟨w, h, noX⟩ q [(m, p + (x_v11 : Int).toNat * 6)] [⟨(K20c1 x14), none⟩] [⟨b, x_v10.length, d, 99, 6, f, 0⟩] bw := ac.addPlc (cs := (K20c1 x14)) (fun j c hj => az j _ (map_get hj)) rfl (by kernel_rfl) (by kernel_rfl)
    refine R_index 3 (x_v11) rfl rfl (rfl) rfl (by decide) a5 (by rfl) (by rfl) (by rfl) ay (by rfl) bl bm (by kernel_rfl) fun bs (a7 : Kn 20 [(m, p + (x_v11 : Int).toNat * 6)] [(tP 14 0 0), (tI 13 x_v11), (tS 12 a_l l.length c_l), (tS 11 b x_v10.length d), (tI 4 x_v11), (tS 0 a_l l.length c_l)] bs) => ?_
    refine Rk 4 1 [(tA 15 (K20c1 x14)), (tS 11 b x_v10.length d), (tI 4 x_v11), (tS 0 a_l l.length c_l)] a7 aj fun b7 a8 => ?_
    obtain ⟨x16, ex16, e⟩ := bnd e
    refine wl fun K hK => ?_
    refine wc [.agg (K20c1 x14)] a8 aj (law_card_ok ad aj.has x14 ((rep_pair rep_int (rep_pair rep_int (rep_pair rep_int (rep_pair rep_ik (rep_pair rep_int rep_int))))) : rep q x14 _) ex16) fun cc x cd ax av bj => ?_
    replace ab := ab.mono av
    obtain ⟨_, rfl, ⟨_, _, rfl, rfl, ⟨_, _, rfl, rfl, ⟨_, _, rfl, rfl, ⟨_, _, rfl, rfl, ⟨_, _, rfl, rfl, rfl⟩⟩⟩⟩⟩⟩ := ax
    refine ⟨.one (.agg (K20c2 x16)), rfl, fun bt (a9 : Kn 20 [(m, p + (x_v11 : Int).toNat * 6)] [(tA 16 (K20c2 x16)), (tA 15 (K20c1 x14)), (tS 11 b x_v10.length d), (tI 4 x_v11), (tS 0 a_l l.length c_l)] bt) => hK _ _ ?_⟩
    refine wl fun K hK => ?_
    refine wS 99 6 (K20c2 x16) a9 bj fun z bu bx (bb : Kn 20 [(m, p + (x_v11 : Int).toNat * 6)] [(tS 17 z 1 1), (tA 16 (K20c2 x16)), (tA 15 (K20c1 x14)), (tS 11 b x_v10.length d), (tI 4 x_v11), (tS 0 a_l l.length c_l)] bu) (aw : Mem ⟨w, h, noX⟩ x [(m, p + (x_v11 : Int).toNat * 6)] [⟨(K20c1 x14), none⟩] [⟨b, x_v10.length, d, 99, 6, f, 0⟩, ⟨z, 1, 1, 99, 6, ([.int .i64 x16.bus, .int .i64 x16.number, .int .i64 x16.minute, .int .u8 x16.kind.n, .int .i64 x16.part, .int .i64 x16.sg] : List Value), 0⟩] bx) => ?_
    have ag : Cells x ([x16] : List Card) ([.int .i64 x16.bus, .int .i64 x16.number, .int .i64 x16.minute, .int .u8 x16.kind.n, .int .i64 x16.part, .int .i64 x16.sg] : List Value) := ⟨_, _, rfl, ((rep_pair rep_int (rep_pair rep_int (rep_pair rep_int (rep_pair rep_ik (rep_pair rep_int rep_int))))) : rep x (x16 : Card) _), rfl⟩
    refine hK _ _ ?_
    obtain ⟨x18, ex18, e⟩ := bnd e
    obtain ⟨an, bh⟩ := app_some ex18
    refine wl fun K hK => ?_
    refine wp_append 0 48 1 _ (x18.length) _ ([.int .i64 x16.bus, .int .i64 x16.number, .int .i64 x16.minute, .int .u8 x16.kind.n, .int .i64 x16.part, .int .i64 x16.sg] : List Value) bb aw rfl rfl (by decide) rfl (by rfl) (by kernel_rfl) (by rfl) (by rfl) (Cells.len ag) (aw.rowCell (i := 1) rfl) ag.one (by rw [an]; simp <;> omega) (by rw [an]; exact bh) (by decide) fun s u ar bv bz a2 (bc : Kn 20 [(m, p + (x_v11 : Int).toNat * 6)] [(tS 18 s x18.length u), (tS 17 z 1 1), (tA 16 (K20c2 x16)), (tA 15 (K20c1 x14)), (tS 11 b x_v10.length d), (tI 4 x_v11), (tS 0 a_l l.length c_l)] bv) (ak : Mem ⟨w, h, noX⟩ x [(m, p + (x_v11 : Int).toNat * 6)] [⟨(K20c1 x14), none⟩] [⟨s, x18.length, u, 99, 6, (f ++ ([.int .i64 x16.bus, .int .i64 x16.number, .int .i64 x16.minute, .int .u8 x16.kind.n, .int .i64 x16.part, .int .i64 x16.sg] : List Value)), ar⟩, ⟨z, 1, 1, 99, 6, ([.int .i64 x16.bus, .int .i64 x16.number, .int .i64 x16.minute, .int .u8 x16.kind.n, .int .i64 x16.part, .int .i64 x16.sg] : List Value), 0⟩] bz) => ?_
    have a0 : Cells x x18 (f ++ ([.int .i64 x16.bus, .int .i64 x16.number, .int .i64 x16.minute, .int .u8 x16.kind.n, .int .i64 x16.part, .int .i64 x16.sg] : List Value)) := by rw [an]; exact Cells.append ab ag
    obtain rfl : ar = 0 := Nat.le_zero.1 a2
    refine hK _ _ ?_
    refine Rk 8 1 [(tS 3 s x18.length u), (tI 4 x_v11), (tS 0 a_l l.length c_l)] bc ak fun b9 bd => ?_
    refine wf (wp_region_from (Rk 0 3 [(tI 4 (IntKind.i64.wrap (x_v11 + 1))), (tS 3 s x18.length u), (tS 0 a_l l.length c_l)] bd ak fun ca be => ?_))
    refine wf ?_
    exact Exists.intro ad ⟨Nat.lt_succ_self _, Exists.intro x18 ⟨(IntKind.i64.wrap (x_v11 + 1)), s, u, (f ++ ([.int .i64 x16.bus, .int .i64 x16.number, .int .i64 x16.minute, .int .u8 x16.kind.n, .int .i64 x16.part, .int .i64 x16.sg] : List Value)), _, _, rfl, ((be.keep [4, 3, 0] (by rfl)).cut 0 (by kernel_rfl)), ((ak.cutRw 1).cutPl 0 (by kernel_rfl)), (Heap.le_trans ai av), a0, e⟩⟩
   ·
    rw [ae, cond_false] at e
    refine wp_exit ?_
    obtain rfl := Option.some.inj e
    exact Exists.intro b ⟨d, f, _, _, rfl, ah.kp, ac, ai, ab⟩
 ·
  rintro _ b0 ⟨k, o, y, ao, aa, rfl, bf, al, b2, af⟩
  refine wp_seq (wp_region_from (Rk 0 2 [(tS 2 k g.length o)] bf al fun cb bg => ?_))
  refine wf (wp_ret ?_)
  obtain ⟨au, bi, bo, am⟩ := al.settle (i := 0) rfl
  replace af := af.mono bi
  replace am : Mem ⟨w, h, noX⟩ au [] [] [⟨k, g.length, o, 99, 6, y, (y : List Value).length⟩] b0 := am
  have bn : RepS au k o g := ⟨_, af, bo, al.rowCap (i := 0) rfl⟩
  obtain rfl := Option.some.inj H
  exact rt (.one (.c (.slice k g.length o))) bg am ⟨_, _, rfl, bn⟩
set_option maxRecDepth 100000 in
set_option maxHeartbeats 4000000 in
theorem ref_Has_ok (n : Nat) {h : Heap} {w : World} (hh : Has h w) (l : List Int) {a_l : Option Addr} {c_l : Nat} (hr_l : RepS h a_l c_l l) (n_ : Int) {r : Bool} (H : ref_Has n l n_ = some r) :
  Calls Try.prog 21 #[.slice a_l l.length c_l, .int .i64 n_] w (Ret (fun h v => v = .bool r) h w) := by
 refine enter 18 [.c (.slice a_l l.length c_l), .c (.int .i64 n_)] Try.func21 rfl rfl rfl rfl fun t hk => ?_
 have hm := Mem.begin h w hh
 unfold ref_Has at H
 refine wp_seq (wp_region_from (Rk 0 1 [(tS 0 a_l l.length c_l), (tI 1 n_)] hk hm fun ay af => ?_))
 refine wf (wp_seq (wp_seq (wp_region_from (Rk 0 1 [(tI 5 0), (tS 0 a_l l.length c_l), (tI 1 n_)] af hm fun a1 ai => ?_))))
 refine wf ?_
 obtain ⟨aa, x, H⟩ := bnd H
 refine wp_mid' (fun a' w' => ∃ (ab : Unit) (s : Array Value) (f : Heap), a' = ⟨s, []⟩ ∧ Kn 18 [] [] s ∧ Mem ⟨w, h, noX⟩ f [] [] [] w' ∧ Heap.le h f ∧ aa = .go ab) ?_ ?_
 ·
  refine wp_block ?_
  refine wp_loop_n (fun ar a' w' => ∃ (x_v10 : Int) (q : Array Value) (d : Heap), a' = ⟨q, []⟩ ∧ Kn 18 [] [(tI 5 x_v10), (tS 0 a_l l.length c_l), (tI 1 n_)] q ∧ Mem ⟨w, h, noX⟩ d [] [] [] w' ∧ Heap.le h d ∧ ref_Has_l1 ar l n_ x_v10 = some aa) n ?_ ?_
  ·
   exact Exists.intro 0 ⟨_, _, rfl, ai.kp, hm, (Heap.le_refl _), x⟩
  ·
   rintro p _ av ⟨x_v10, q, d, rfl, ae, e, o, a⟩
   clear x
   obtain _ | p := p
   ·
    rw [ref_Has_l1] at a; cases a
   rw [ref_Has_l1] at a
   replace hr_l := hr_l.mono o
   refine wp_seq (wp_seq (wp_region_from (Rk 0 4 [(tB 9 (decide (x_v10 < ((l.length : Nat) : Int)))), (tI 5 x_v10), (tS 0 a_l l.length c_l), (tI 1 n_)] ae e fun az k => ?_)))
   refine wf (wC (decide (x_v10 < ((l.length : Nat) : Int))) k (fun g => ?_) (fun g => ?_))
   ·
    rw [g, cond_true] at a
    refine wp_skip (wp_seq (wp_block (wp_seq (wp_region_from (Rk 0 2 [(tI 13 x_v10), (tS 12 a_l l.length c_l), (tI 5 x_v10), (tS 0 a_l l.length c_l), (tI 1 n_)] k e fun a0 ag => ?_)))))
    obtain ⟨x14, ex14, a⟩ := bnd a
    obtain ⟨an, ao, aq⟩ := idx_some ex14
    obtain ⟨u, z, aw, ac, ap, ad⟩ := hr_l.get (by decide) aq
    obtain rfl := ap
    have b : Mem ⟨w, h, noX⟩ d [(u, z + (x_v10 : Int).toNat * 1)] [⟨[.int .i64 x14], none⟩] [] av := e.addPlc (cs := [.int .i64 x14]) (fun j c hj => ad j _ (map_get hj)) rfl (by kernel_rfl) (by kernel_rfl)
    refine R_index 2 (x_v10) rfl rfl (rfl) rfl (by decide) ag (by rfl) (by rfl) (by rfl) ac (by rfl) an ao (by kernel_rfl) fun au (ah : Kn 18 [(u, z + (x_v10 : Int).toNat * 1)] [(tP 14 0 0), (tI 13 x_v10), (tS 12 a_l l.length c_l), (tI 5 x_v10), (tS 0 a_l l.length c_l), (tI 1 n_)] au) => ?_
    refine Rk 3 3 [(tB 17 (x14 == n_)), (tI 5 x_v10), (tS 0 a_l l.length c_l), (tI 1 n_)] ah b fun a2 m => ?_
    refine wf (wC ((x14 == n_)) m (fun i => ?_) (fun i => ?_))
    ·
     rw [i, cond_true] at a
     refine wp_seq (wp_region_from (Rk 0 1 [(tB 4 true)] m b fun a3 aj => ?_))
     refine wf (wp_ret ?_)
     obtain rfl := Option.some.inj a
     obtain rfl := Option.some.inj H
     exact rt (.one (.c (.bool true))) aj b rfl
    ·
     rw [i, cond_false] at a
     refine wp_skip (wp_region_from (Rk 0 3 [(tI 5 (IntKind.i64.wrap (x_v10 + 1))), (tS 0 a_l l.length c_l), (tI 1 n_)] m b fun a4 ak => ?_))
     refine wf ?_
     exact Exists.intro p ⟨Nat.lt_succ_self _, Exists.intro (IntKind.i64.wrap (x_v10 + 1)) ⟨_, _, rfl, ((ak.keep [5, 0, 1] (by rfl)).cut 0 (by kernel_rfl)), (b.cutPl 0 (by kernel_rfl)), o, a⟩⟩
   ·
    rw [g, cond_false] at a
    refine wp_exit ?_
    obtain rfl := Option.some.inj a
    exact Exists.intro () ⟨_, _, rfl, k.kp, e, o, rfl⟩
 ·
  rintro _ a6 ⟨ab, s, f, rfl, al, y, ax, rfl⟩
  rw [Ex.bind_go] at H
  refine wp_seq (wp_region_from (Rk 0 1 [(tB 4 false)] al y fun a5 am => ?_))
  refine wf (wp_ret ?_)
  obtain rfl := Option.some.inj H
  exact rt (.one (.c (.bool false))) am y rfl
end Go.Proofs.Ytkbphdjemgibnaa
