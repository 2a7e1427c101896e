/- Each call computes its plain function. -/
import Derived.Test.YtkbphdjemgibnaaProg
import Derived.Test.YtkbphdjemgibnaaOpP0
import Derived.Test.YtkbphdjemgibnaaOpWA
import Derived.Test.YtkbphdjemgibnaaOpWQ
import Derived.Test.YtkbphdjemgibnaaOpWR
import Derived.Test.YtkbphdjemgibnaaOpWW
set_option linter.all false
namespace Go.Proofs.Ytkbphdjemgibnaa
open Go Go.RowKit
open Rep (rep)
open KRep (kv)
open VRep (rv)
abbrev K5m1 (a_l : Option Addr) (l : List Card) (c_l : Nat) (bus minute : Int) : TM := [(tS 0 a_l l.length c_l), (tI 1 bus), (tI 2 minute)]
abbrev K5m2 (x27 : Int) (x23 : (List Int) × Int) (a : Option Addr) (b : Nat) (a_l : Option Addr) (l : List Card) (c_l : Nat) (bus minute : Int) : TM := (tI 10 x27) :: (tI 9 x23.2) :: (tS 8 a x23.1.length b) :: (K5m1 a_l l c_l bus minute)
set_option maxRecDepth 100000 in
set_option maxHeartbeats 4000000 in
theorem law_PitOpens_ok (n : Nat) {h : Heap} {w : World} (hh : Has h w) (l : List Card) {a_l : Option Addr} {c_l : Nat} (hr_l : RepS h a_l c_l l) (bus : Int) (minute : Int) {r : Bool} (H : law_PitOpens n l bus minute = some r) :
  Calls Try.prog 5 #[.slice a_l l.length c_l, .int .i64 bus, .int .i64 minute] w (Ret (fun h v => v = .bool r) h w) := by
 refine enter 69 [.c (.slice a_l l.length c_l), .c (.int .i64 bus), .c (.int .i64 minute)] Try.func5 rfl rfl rfl rfl fun t hk => ?_
 have hm := Mem.begin h w hh
 unfold law_PitOpens at H
 refine wp_seq (wp_region_from (Rk 0 1 (K5m1 a_l l c_l bus minute) hk hm fun eh cu => ?_))
 refine wf (wp_seq (wp_seq (wp_region_from (Rk 0 3 ((tB 13 (decide (((l.length : Nat) : Int) > 45))) :: (K5m1 a_l l c_l bus minute)) cu hm fun ey ar => ?_))))
 refine wf (wC (decide (((l.length : Nat) : Int) > 45)) ar (fun an => ?_) (fun an => ?_))
 ·
  rw [an, cond_true] at H
  refine wp_seq (wp_region_from ?_)
  obtain ⟨x14, ex14, H⟩ := bnd H
  refine wl fun K hK => ?_
  refine wc [] ar hm (law_wakes_ok n hm.has  ex14) fun fh eb fx b4 ed bf => ?_
  obtain rfl := b4
  refine ⟨.one (.c (.bool x14)), rfl, fun dr (cf : Kn 69 [] ((tB 14 x14) :: (tB 13 (decide (((l.length : Nat) : Int) > 45))) :: (K5m1 a_l l c_l bus minute)) dr) => hK _ _ ?_⟩
  refine Rk 1 1 [(tB 6 x14)] cf bf fun eo cj => ?_
  refine wf (wp_ret ?_)
  obtain rfl := Option.some.inj H
  exact rt (.one (.c (.bool x14))) cj bf rfl
 ·
  rw [an, cond_false] at H
  refine wp_skip (wp_seq (wp_region_from (Rk 0 1 ((tS 15 a_l l.length c_l) :: (K5m1 a_l l c_l bus minute)) ar hm fun er cr => ?_)))
  obtain ⟨x16, ex16, H⟩ := bnd H
  refine wl fun K hK => ?_
  refine wc [.c (.slice a_l l.length c_l)] cr hm (law_Cards_ok n hm.has l hr_l ex16) fun fb d6 fr bz dh bk => ?_
  obtain ⟨ab, ad, rfl, dn⟩ := bz
  refine ⟨.one (.c (.slice ab x16.length ad)), rfl, fun dw (c1 : Kn 69 [] ((tS 16 ab x16.length ad) :: (tS 15 a_l l.length c_l) :: (K5m1 a_l l c_l bus minute)) dw) => hK _ _ ?_⟩
  obtain ⟨x17, ex17, H⟩ := bnd H
  refine wl fun K hK => ?_
  refine wc [.c (.slice ab x16.length ad)] c1 bk (pit_CheckCards_ok n bk.has x16 dn ex17) fun fe d8 ft b0 di ai => ?_
  replace hr_l := hr_l.mono (Heap.le_trans dh di)
  obtain rfl := b0
  refine ⟨.one (.c (.int .i64 x17)), rfl, fun dx (c2 : Kn 69 [] ((tI 17 x17) :: (tS 16 ab x16.length ad) :: (tS 15 a_l l.length c_l) :: (K5m1 a_l l c_l bus minute)) dx) => hK _ _ ?_⟩
  refine Rk 3 1 ((tI 7 x17) :: (K5m1 a_l l c_l bus minute)) c2 ai fun ez c3 => ?_
  refine wf (wp_seq (wp_region_from (Rk 0 1 ((tS 19 a_l l.length c_l) :: (tI 7 x17) :: (K5m1 a_l l c_l bus minute)) c3 ai fun e0 c4 => ?_)))
  obtain ⟨x20, ex20, H⟩ := bnd H
  refine wl fun K hK => ?_
  refine wc [.c (.slice a_l l.length c_l)] c4 ai (law_Cards_ok n ai.has l hr_l ex20) fun ff d9 fu b1 dj aw => ?_
  obtain ⟨m, o, rfl, dp⟩ := b1
  refine ⟨.one (.c (.slice m x20.length o)), rfl, fun dy (c5 : Kn 69 [] ((tS 20 m x20.length o) :: (tS 19 a_l l.length c_l) :: (tI 7 x17) :: (K5m1 a_l l c_l bus minute)) dy) => hK _ _ ?_⟩
  refine Rk 2 2 ((tI 22 minute) :: (tI 21 bus) :: (tS 20 m x20.length o) :: (tI 7 x17) :: (K5m1 a_l l c_l bus minute)) c5 aw fun e1 c6 => ?_
  obtain ⟨x23, ex23, H⟩ := bnd H
  refine wl fun K hK => ?_
  refine wc [.c (.slice m x20.length o), .c (.int .i64 bus), .c (.int .i64 minute)] c6 aw (pit_Open_ok n aw.has x20 dp bus minute ex23) fun fg ea fv b2 dk aj => ?_
  replace hr_l := hr_l.mono (Heap.le_trans dj dk)
  obtain ⟨_, _, rfl, ⟨a, b, rfl, f⟩, rfl⟩ := b2
  refine ⟨.tup [.c (.slice a x23.1.length b), .c (.int .i64 x23.2)], rfl, fun dz (c7 : Kn 69 [] ((23, .tup [.c (.slice a x23.1.length b), .c (.int .i64 x23.2)]) :: (tI 22 minute) :: (tI 21 bus) :: (tS 20 m x20.length o) :: (tI 7 x17) :: (K5m1 a_l l c_l bus minute)) dz) => hK _ _ ?_⟩
  refine Rk 5 5 ((tI 9 x23.2) :: (tS 8 a x23.1.length b) :: (tI 7 x17) :: (K5m1 a_l l c_l bus minute)) c7 aj fun e2 c8 => ?_
  refine wf (wp_seq (wp_region_from (Rk 0 1 ((tS 26 a_l l.length c_l) :: (tI 9 x23.2) :: (tS 8 a x23.1.length b) :: (tI 7 x17) :: (K5m1 a_l l c_l bus minute)) c8 aj fun e3 c9 => ?_)))
  obtain ⟨x27, ex27, H⟩ := bnd H
  refine wl fun K hK => ?_
  refine wc [.c (.slice a_l l.length c_l)] c9 aj (law_fault_ok n aj.has l hr_l ex27) fun fi b6 fw b3 be g => ?_
  replace hr_l := hr_l.mono be
  replace f := f.mono be
  obtain rfl := b3
  refine ⟨.one (.c (.int .i64 x27)), rfl, fun d0 (da : Kn 69 [] ((tI 27 x27) :: (tS 26 a_l l.length c_l) :: (tI 9 x23.2) :: (tS 8 a x23.1.length b) :: (tI 7 x17) :: (K5m1 a_l l c_l bus minute)) d0) => hK _ _ ?_⟩
  refine Rk 2 1 ((tI 10 x27) :: (tI 9 x23.2) :: (tS 8 a x23.1.length b) :: (tI 7 x17) :: (K5m1 a_l l c_l bus minute)) da g fun e4 db => ?_
  refine wf (wp_seq (wp_seq (wp_region_from (Rk 0 3 ((tB 30 (x17 != x27)) :: (K5m2 x27 x23 a b a_l l c_l bus minute)) db g fun e5 au => ?_))))
  refine wf (wC ((x17 != x27)) au (fun ao => ?_) (fun ao => ?_))
  ·
   rw [ao, cond_true] at H
   refine wp_seq (wp_region_from (Rk 0 1 [(tB 6 false)] au g fun e6 dc => ?_))
   refine wf (wp_ret ?_)
   obtain rfl := Option.some.inj H
   exact rt (.one (.c (.bool false))) dc g rfl
  ·
   rw [ao, cond_false] at H
   refine wp_skip (wp_seq (wp_seq ?_))
   obtain ⟨bm, e, H⟩ := bnd H
   refine wp_mid' (fun a' w' => ∃ (az : Array Value) (ag : Heap), a' = ⟨az, []⟩ ∧ Kn 69 [] [(tI 10 x27), (tI 9 x23.2), (tS 8 a x23.1.length b), (tS 0 a_l l.length c_l), (tI 1 bus), (tI 2 minute), (tB 42 bm)] az ∧ Mem ⟨w, h, noX⟩ ag [] [] [] w' ∧ Heap.le b6 ag) ?_ ?_
   ·
    refine wp_region_from (Rk 0 3 ((tB 33 (x27 == 0)) :: (K5m2 x27 x23 a b a_l l c_l bus minute)) au g fun bs ba => ?_)
    rcases Bool.eq_false_or_eq_true ((x27 == 0)) with y | y
    ·
     rw [y, cond_true] at e
     have dd : Kn 69 [] ((tB 33 true) :: (K5m2 x27 x23 a b a_l l c_l bus minute)) bs := (ba.setB 33 true (by rfl) y).kp
     refine Rk 3 1 ((tI 34 bus) :: (tB 33 true) :: (K5m2 x27 x23 a b a_l l c_l bus minute)) dd g fun e7 bb => ?_
     obtain ⟨x35, ex35, e⟩ := bnd e
     refine wpFrom_loud _ rfl (wantedS_sound bb (by kernel_rfl)) fun K hK => ?_
     refine wc [.c (.int .i64 bus), .c (.int .i64 0), .c (.int .i64 99)] bb g (ref_In_ok n g.has bus 0 99 ex35) fun fj ec fy b5 ah j => ?_
     replace hr_l := hr_l.mono ah
     replace f := f.mono ah
     obtain rfl := b5
     refine ⟨.one (.c (.bool x35)), rfl, fun d1 (b7 : Kn 69 [] ((tB 35 x35) :: (tI 34 bus) :: (tB 33 true) :: (K5m2 x27 x23 a b a_l l c_l bus minute)) d1) => hK _ _ ?_⟩
     refine Rk 5 2 ((tB 37 (!x35)) :: (tB 33 true) :: (K5m2 x27 x23 a b a_l l c_l bus minute)) b7 j fun bn a0 => ?_
     rcases Bool.eq_false_or_eq_true ((!x35)) with p | p
     ·
      rw [p, cond_true] at e
      have b8 : Kn 69 [] ((tB 37 true) :: (tB 33 true) :: (K5m2 x27 x23 a b a_l l c_l bus minute)) bn := (a0.setB 37 true (by rfl) p).kp
      refine Rk 7 5 ((tB 42 true) :: (K5m2 x27 x23 a b a_l l c_l bus minute)) b8 j fun ei b9 => ?_
      refine wf ?_
      obtain rfl := Option.some.inj e
      exact Exists.intro _ ⟨_, rfl, b9.kp, j, ah⟩
     ·
      rw [p, cond_false] at e
      have ca : Kn 69 [] ((tB 37 false) :: (tB 33 true) :: (K5m2 x27 x23 a b a_l l c_l bus minute)) bn := (a0.setB 37 false (by rfl) p).kp
      refine Rk 7 1 ((tI 38 minute) :: (tB 37 false) :: (tB 33 true) :: (K5m2 x27 x23 a b a_l l c_l bus minute)) ca j fun ej a1 => ?_
      obtain ⟨x39, ex39, e⟩ := bnd e
      refine wpFrom_loud _ rfl (wantedS_sound a1 (by kernel_rfl)) fun K hK => ?_
      refine wc [.c (.int .i64 minute), .c (.int .i64 0), .c (.int .i64 1000000)] a1 j (ref_In_ok n j.has minute 0 1000000 ex39) fun e8 d2 fk bt de bg => ?_
      obtain rfl := bt
      refine ⟨.one (.c (.bool x39)), rfl, fun dq (cb : Kn 69 [] ((tB 39 x39) :: (tI 38 minute) :: (tB 37 false) :: (tB 33 true) :: (K5m2 x27 x23 a b a_l l c_l bus minute)) dq) => hK _ _ ?_⟩
      refine Rk 9 3 ((tB 42 (!x39)) :: (K5m2 x27 x23 a b a_l l c_l bus minute)) cb bg fun ek cc => ?_
      refine wf ?_
      obtain rfl := Option.some.inj e
      exact Exists.intro _ ⟨_, rfl, cc.kp, bg, (Heap.le_trans ah de)⟩
    ·
     rw [y, cond_false] at e
     have cd : Kn 69 [] ((tB 33 false) :: (K5m2 x27 x23 a b a_l l c_l bus minute)) bs := (ba.setB 33 false (by rfl) y).kp
     refine Rk 3 9 ((tB 42 false) :: (K5m2 x27 x23 a b a_l l c_l bus minute)) cd g fun el ce => ?_
     refine wf ?_
     obtain rfl := Option.some.inj e
     exact Exists.intro _ ⟨_, rfl, ce.kp, g, (Heap.le_refl _)⟩
   ·
    rintro _ fl ⟨az, ag, rfl, ap, av, bc⟩
    replace hr_l := hr_l.mono bc
    replace f := f.mono bc
    obtain ⟨k, ae, H⟩ := bnd H
    refine wp_mid' (fun a' w' => ∃ (ax : Array Value) (af : Heap), a' = ⟨ax, []⟩ ∧ Kn 69 [] ((tI 10 k) :: (tI 9 x23.2) :: (tS 8 a x23.1.length b) :: (K5m1 a_l l c_l bus minute)) ax ∧ Mem ⟨w, h, noX⟩ af [] [] [] w' ∧ Heap.le ag af) ?_ ?_
    ·
     refine wC (bm) ap (fun al => ?_) (fun al => ?_)
     ·
      rw [al, cond_true] at ae
      refine wp_region_from (Rk 0 1 ((tI 10 2) :: (tI 9 x23.2) :: (tS 8 a x23.1.length b) :: (K5m1 a_l l c_l bus minute)) ap av fun em cg => ?_)
      refine wf ?_
      obtain rfl := Option.some.inj ae
      exact Exists.intro _ ⟨_, rfl, cg.kp, av, (Heap.le_refl _)⟩
     ·
      rw [al, cond_false] at ae
      refine wp_skip ?_
      obtain rfl := Option.some.inj ae
      exact Exists.intro _ ⟨_, rfl, ap.kp, av, (Heap.le_refl _)⟩
    ·
     rintro _ fm ⟨ax, af, rfl, ch, d, bd⟩
     replace hr_l := hr_l.mono bd
     replace f := f.mono bd
     refine wp_seq (wp_seq (wp_region_from (Rk 0 2 ((tB 44 (k != 0)) :: (tI 10 k) :: (tI 9 x23.2) :: (tS 8 a x23.1.length b) :: (K5m1 a_l l c_l bus minute)) ch d fun en aq => ?_)))
     refine wf (wC ((k != 0)) aq (fun am => ?_) (fun am => ?_))
     ·
      rw [am, cond_true] at H
      refine wp_seq ?_
      obtain ⟨bl, i, H⟩ := bnd H
      refine wp_mid' (fun a' w' => ∃ (ay : Array Value) (ak : Heap), a' = ⟨ay, []⟩ ∧ Kn 69 [] [(tB 6 bl)] ay ∧ Mem ⟨w, h, noX⟩ ak [] [] [] w' ∧ Heap.le af ak) ?_ ?_
      ·
       refine wp_region_from (Rk 0 4 [(tB 48 (x23.2 == k)), (tS 8 a x23.1.length b)] aq d fun bo a2 => ?_)
       rcases Bool.eq_false_or_eq_true ((x23.2 == k)) with q | q
       ·
        rw [q, cond_true] at i
        have ci : Kn 69 [] [(tB 48 true), (tS 8 a x23.1.length b)] bo := (a2.setB 48 true (by rfl) q).kp
        refine Rk 4 5 [(tB 53 (((x23.1.length : Nat) : Int) == 0))] ci d fun bp a3 => ?_
        rcases Bool.eq_false_or_eq_true ((((x23.1.length : Nat) : Int) == 0)) with s | s
        ·
         rw [s, cond_true] at i
         have a4 : Kn 69 [] [(tB 53 true)] bp := (a3.setB 53 true (by rfl) s).kp
         obtain ⟨x54, ex54, i⟩ := bnd i
         refine wpFrom_loud _ rfl (wantedS_sound a4 (by kernel_rfl)) fun K hK => ?_
         refine wc [] a4 d (law_wakes_ok n d.has  ex54) fun e9 d3 fn bu df bh => ?_
         obtain rfl := bu
         refine ⟨.one (.c (.bool x54)), rfl, fun ds (ck : Kn 69 [] [(tB 54 x54), (tB 53 true)] ds) => hK _ _ ?_⟩
         refine Rk 10 2 [(tB 6 x54)] ck bh fun ep cl => ?_
         refine wf ?_
         obtain rfl := Option.some.inj i
         exact Exists.intro _ ⟨_, rfl, cl.kp, bh, df⟩
        ·
         rw [s, cond_false] at i
         have cm : Kn 69 [] [(tB 53 false)] bp := (a3.setB 53 false (by rfl) s).kp
         refine Rk 9 3 [(tB 6 false)] cm d fun es cn => ?_
         refine wf ?_
         obtain rfl := Option.some.inj i
         exact Exists.intro _ ⟨_, rfl, cn.kp, d, (Heap.le_refl _)⟩
       ·
        rw [q, cond_false] at i
        have co : Kn 69 [] [(tB 48 false), (tS 8 a x23.1.length b)] bo := (a2.setB 48 false (by rfl) q).kp
        refine Rk 4 8 [(tB 6 false)] co d fun et cp => ?_
        refine wf ?_
        obtain rfl := Option.some.inj i
        exact Exists.intro _ ⟨_, rfl, cp.kp, d, (Heap.le_refl _)⟩
      ·
       rintro _ fo ⟨ay, ak, rfl, cq, dl, ee⟩
       refine wp_ret ?_
       obtain rfl := Option.some.inj H
       exact rt (.one (.c (.bool bl))) cq dl rfl
     ·
      rw [am, cond_false] at H
      refine wp_skip (wp_seq (wp_region_from (Rk 0 3 ((tB 58 (x23.2 == 0)) :: (tS 8 a x23.1.length b) :: (K5m1 a_l l c_l bus minute)) aq d fun bq a5 => ?_)))
      rcases Bool.eq_false_or_eq_true ((x23.2 == 0)) with u | u
      ·
       rw [u, cond_true] at H
       have cs : Kn 69 [] ((tB 58 true) :: (tS 8 a x23.1.length b) :: (K5m1 a_l l c_l bus minute)) bq := (a5.setB 58 true (by rfl) u).kp
       refine Rk 3 4 [(tI 62 minute), (tI 61 bus), (tS 60 a_l l.length c_l), (tS 59 a x23.1.length b), (tB 58 true)] cs d fun eu a6 => ?_
       obtain ⟨x63, ex63, H⟩ := bnd H
       refine wpFrom_loud _ rfl (wantedS_sound a6 (by kernel_rfl)) fun K hK => ?_
       refine wc [.c (.slice a_l l.length c_l), .c (.int .i64 bus), .c (.int .i64 minute)] a6 d (ref_Opens_ok n d.has l hr_l bus minute ex63) fun fa d4 fp bv dg bi => ?_
       replace f := f.mono dg
       obtain ⟨aa, ac, rfl, dm⟩ := bv
       refine ⟨.one (.c (.slice aa x63.length ac)), rfl, fun dt (a7 : Kn 69 [] [(tS 63 aa x63.length ac), (tI 62 minute), (tI 61 bus), (tS 60 a_l l.length c_l), (tS 59 a x23.1.length b), (tB 58 true)] dt) => hK _ _ ?_⟩
       obtain ⟨x64, ex64, H⟩ := bnd H
       refine wpFrom_loud _ rfl (wantedS_sound a7 (by kernel_rfl)) fun K hK => ?_
       refine wc [.c (.slice a x23.1.length b), .c (.slice aa x63.length ac)] a7 bi (law_ints_ok n bi.has x23.1 f x63 dm ex64) fun fc d5 fq bw ef z => ?_
       obtain rfl := bw
       refine ⟨.one (.c (.bool x64)), rfl, fun du (ct : Kn 69 [] [(tB 64 x64), (tS 63 aa x63.length ac), (tI 62 minute), (tI 61 bus), (tS 60 a_l l.length c_l), (tS 59 a x23.1.length b), (tB 58 true)] du) => hK _ _ ?_⟩
       refine Rk 9 2 [(tB 66 x64)] ct z fun br a8 => ?_
       rcases Bool.eq_false_or_eq_true (x64) with x | x
       ·
        rw [x, cond_true] at H
        have a9 : Kn 69 [] [(tB 66 true)] br := (a8.setB 66 true (by rfl) x).kp
        obtain ⟨x67, ex67, H⟩ := bnd H
        refine wpFrom_loud _ rfl (wantedS_sound a9 (by kernel_rfl)) fun K hK => ?_
        refine wc [] a9 z (law_wakes_ok n z.has  ex67) fun fd d7 fs bx eg bj => ?_
        obtain rfl := bx
        refine ⟨.one (.c (.bool x67)), rfl, fun dv (cv : Kn 69 [] [(tB 67 x67), (tB 66 true)] dv) => hK _ _ ?_⟩
        refine Rk 12 2 [(tB 6 x67)] cv bj fun ev cw => ?_
        refine wf (wp_ret ?_)
        obtain rfl := Option.some.inj H
        exact rt (.one (.c (.bool x67))) cw bj rfl
       ·
        rw [x, cond_false] at H
        have cx : Kn 69 [] [(tB 66 false)] br := (a8.setB 66 false (by rfl) x).kp
        refine Rk 11 3 [(tB 6 false)] cx z fun ew cy => ?_
        refine wf (wp_ret ?_)
        obtain rfl := Option.some.inj H
        exact rt (.one (.c (.bool false))) cy z rfl
      ·
       rw [u, cond_false] at H
       have cz : Kn 69 [] ((tB 58 false) :: (tS 8 a x23.1.length b) :: (K5m1 a_l l c_l bus minute)) bq := (a5.setB 58 false (by rfl) u).kp
       refine Rk 3 11 [(tB 6 false)] cz d fun ex c0 => ?_
       refine wf (wp_ret ?_)
       obtain rfl := Option.some.inj H
       exact rt (.one (.c (.bool false))) c0 d rfl
end Go.Proofs.Ytkbphdjemgibnaa
