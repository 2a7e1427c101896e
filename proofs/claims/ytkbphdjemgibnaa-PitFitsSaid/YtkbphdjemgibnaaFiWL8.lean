/- Each call computes its plain function. -/
import Derived.Test.YtkbphdjemgibnaaProg
import Derived.Test.YtkbphdjemgibnaaFiP0
import Derived.Test.YtkbphdjemgibnaaFiWA
import Derived.Test.YtkbphdjemgibnaaFiWS
import Derived.Test.YtkbphdjemgibnaaFiWW
set_option linter.all false
namespace Go.Proofs.Ytkbphdjemgibnaa
open Go Go.RowKit
open Rep (rep)
open KRep (kv)
open VRep (rv)
abbrev K8m1 (x18 : (List Int) × Int) (a : Option Addr) (b : Nat) (a_l : Option Addr) (l : List Card) (c_l : Nat) (minute : Int) : TM := [(tI 6 x18.2), (tS 5 a x18.1.length b), (tS 0 a_l l.length c_l), (tI 1 minute)]
set_option maxRecDepth 100000 in
set_option maxHeartbeats 4000000 in
theorem law_PitFits_ok (n : Nat) {h : Heap} {w : World} (hh : Has h w) (l : List Card) {a_l : Option Addr} {c_l : Nat} (hr_l : RepS h a_l c_l l) (minute : Int) {r : Bool} (H : law_PitFits n l minute = some r) :
  Calls Try.prog 8 #[.slice a_l l.length c_l, .int .i64 minute] w (Ret (fun h v => v = .bool r) h w) := by
 refine enter 84 [.c (.slice a_l l.length c_l), .c (.int .i64 minute)] Try.func8 rfl rfl rfl rfl fun t hk => ?_
 have hm := Mem.begin h w hh
 unfold law_PitFits at H
 refine wp_seq (wp_region_from (Rk 0 1 [(tS 0 a_l l.length c_l), (tI 1 minute)] hk hm fun fc de => ?_))
 refine wf (wp_seq (wp_seq (wp_region_from (Rk 0 3 [(tB 12 (decide (((l.length : Nat) : Int) > 45))), (tS 0 a_l l.length c_l), (tI 1 minute)] de hm fun fx ay => ?_))))
 refine wf (wC (decide (((l.length : Nat) : Int) > 45)) ay (fun au => ?_) (fun au => ?_))
 ·
  rw [au, cond_true] at H
  refine wp_seq (wp_region_from ?_)
  obtain ⟨x13, ex13, H⟩ := bnd H
  refine wl fun K hK => ?_
  refine wc [] ay hm (law_wakes_ok n hm.has  ex13) fun gh e6 g0 cn e7 br => ?_
  obtain rfl := cn
  refine ⟨.one (.c (.bool x13)), rfl, fun eh (cz : Kn 84 [] [(tB 13 x13), (tB 12 (decide (((l.length : Nat) : Int) > 45))), (tS 0 a_l l.length c_l), (tI 1 minute)] eh) => hK _ _ ?_⟩
  refine Rk 1 1 [(tB 4 x13)] cz br fun fj c2 => ?_
  refine wf (wp_ret ?_)
  obtain rfl := Option.some.inj H
  exact rt (.one (.c (.bool x13))) c2 br rfl
 ·
  rw [au, cond_false] at H
  refine wp_skip (wp_seq (wp_region_from (Rk 0 1 [(tS 15 a_l l.length c_l), (tS 0 a_l l.length c_l), (tI 1 minute)] ay hm fun fl c7 => ?_)))
  obtain ⟨x16, ex16, H⟩ := bnd H
  refine wl fun K hK => ?_
  refine wc [.c (.slice a_l l.length c_l)] c7 hm (law_Cards_ok n hm.has l hr_l ex16) fun f8 ez gq cf d8 a1 => ?_
  obtain ⟨o, p, rfl, ee⟩ := cf
  refine ⟨.one (.c (.slice o x16.length p)), rfl, fun ep (dr : Kn 84 [] [(tS 16 o x16.length p), (tS 15 a_l l.length c_l), (tS 0 a_l l.length c_l), (tI 1 minute)] ep) => hK _ _ ?_⟩
  refine Rk 2 1 [(tI 17 minute), (tS 16 o x16.length p), (tS 0 a_l l.length c_l), (tI 1 minute)] dr a1 fun fw ds => ?_
  obtain ⟨x18, ex18, H⟩ := bnd H
  refine wl fun K hK => ?_
  refine wc [.c (.slice o x16.length p), .c (.int .i64 minute)] ds a1 (pit_FitL_ok n a1.has x16 ee minute ex18) fun gd e3 gw cj d9 al => ?_
  replace hr_l := hr_l.mono (Heap.le_trans d8 d9)
  obtain ⟨_, _, rfl, ⟨a, b, rfl, k⟩, rfl⟩ := cj
  refine ⟨.tup [.c (.slice a x18.1.length b), .c (.int .i64 x18.2)], rfl, fun er (dt : Kn 84 [] [(18, .tup [.c (.slice a x18.1.length b), .c (.int .i64 x18.2)]), (tI 17 minute), (tS 16 o x16.length p), (tS 0 a_l l.length c_l), (tI 1 minute)] er) => hK _ _ ?_⟩
  refine Rk 4 5 (K8m1 x18 a b a_l l c_l minute) dt al fun fy du => ?_
  refine wf (wp_seq (wp_region_from (Rk 0 1 ((tS 22 a_l l.length c_l) :: (K8m1 x18 a b a_l l c_l minute)) du al fun fz dv => ?_)))
  obtain ⟨x23, ex23, H⟩ := bnd H
  refine wl fun K hK => ?_
  refine wc [.c (.slice a_l l.length c_l)] dv al (law_Cards_ok n al.has l hr_l ex23) fun gf e4 gx ck bo bx => ?_
  obtain ⟨ah, ak, rfl, ef⟩ := ck
  refine ⟨.one (.c (.slice ah x23.length ak)), rfl, fun es (dw : Kn 84 [] ((tS 23 ah x23.length ak) :: (tS 22 a_l l.length c_l) :: (K8m1 x18 a b a_l l c_l minute)) es) => hK _ _ ?_⟩
  obtain ⟨x24, ex24, H⟩ := bnd H
  refine wl fun K hK => ?_
  refine wc [.c (.slice ah x23.length ak)] dw bx (pit_Void_ok n bx.has x23 ef ex24) fun gg e5 gy cl bp am => ?_
  replace hr_l := hr_l.mono (Heap.le_trans bo bp)
  obtain ⟨_, _, rfl, ⟨d, e, rfl, ae⟩, rfl⟩ := cl
  refine ⟨.tup [.c (.slice d x24.1.length e), .c (.int .i64 x24.2)], rfl, fun et (dx : Kn 84 [] ((24, .tup [.c (.slice d x24.1.length e), .c (.int .i64 x24.2)]) :: (tS 23 ah x23.length ak) :: (tS 22 a_l l.length c_l) :: (K8m1 x18 a b a_l l c_l minute)) et) => hK _ _ ?_⟩
  refine Rk 3 5 ((tI 8 x24.2) :: (tS 7 d x24.1.length e) :: (K8m1 x18 a b a_l l c_l minute)) dx am fun f0 dy => ?_
  refine wf (wp_seq (wp_region_from (Rk 0 1 ((tS 27 a_l l.length c_l) :: (tI 8 x24.2) :: (tS 7 d x24.1.length e) :: (K8m1 x18 a b a_l l c_l minute)) dy am fun f1 dz => ?_)))
  obtain ⟨x28, ex28, H⟩ := bnd H
  refine wl fun K hK => ?_
  refine wc [.c (.slice a_l l.length c_l)] dz am (law_fault_ok n am.has l hr_l ex28) fun gi a5 gz cm a0 f => ?_
  replace hr_l := hr_l.mono a0
  replace k := k.mono (Heap.le_trans (Heap.le_trans bo bp) a0)
  replace ae := ae.mono a0
  obtain rfl := cm
  refine ⟨.one (.c (.int .i64 x28)), rfl, fun eu (d0 : Kn 84 [] ((tI 28 x28) :: (tS 27 a_l l.length c_l) :: (tI 8 x24.2) :: (tS 7 d x24.1.length e) :: (K8m1 x18 a b a_l l c_l minute)) eu) => hK _ _ ?_⟩
  refine Rk 2 1 ((tI 9 x28) :: (tI 8 x24.2) :: (tS 7 d x24.1.length e) :: (K8m1 x18 a b a_l l c_l minute)) d0 f fun f2 d1 => ?_
  refine wf (wp_seq (wp_seq (wp_region_from (Rk 0 2 ((tB 30 (x28 != 0)) :: (tI 9 x28) :: (tI 8 x24.2) :: (tS 7 d x24.1.length e) :: (K8m1 x18 a b a_l l c_l minute)) d1 f fun f3 az => ?_))))
  refine wf (wC ((x28 != 0)) az (fun av => ?_) (fun av => ?_))
  ·
   rw [av, cond_true] at H
   refine wp_seq ?_
   obtain ⟨b1, i, H⟩ := bnd H
   refine wp_mid' (fun a' w' => ∃ (a4 : Array Value) (ap : Heap), a' = ⟨a4, []⟩ ∧ Kn 84 [] [(tB 4 b1)] a4 ∧ Mem ⟨w, h, noX⟩ ap [] [] [] w' ∧ Heap.le a5 ap) ?_ ?_
   ·
    refine wp_region_from (Rk 0 4 [(tB 34 (x18.2 == x28)), (tI 9 x28), (tI 8 x24.2), (tS 7 d x24.1.length e), (tS 5 a x18.1.length b)] az f fun b7 bh => ?_)
    rcases Bool.eq_false_or_eq_true ((x18.2 == x28)) with z | z
    ·
     rw [z, cond_true] at i
     have d2 : Kn 84 [] [(tB 34 true), (tI 9 x28), (tI 8 x24.2), (tS 7 d x24.1.length e), (tS 5 a x18.1.length b)] b7 := (bh.setB 34 true (by rfl) z).kp
     refine Rk 4 5 [(tB 39 (x24.2 == x28)), (tS 7 d x24.1.length e), (tS 5 a x18.1.length b)] d2 f fun b8 bi => ?_
     rcases Bool.eq_false_or_eq_true ((x24.2 == x28)) with aa | aa
     ·
      rw [aa, cond_true] at i
      have d3 : Kn 84 [] [(tB 39 true), (tS 7 d x24.1.length e), (tS 5 a x18.1.length b)] b8 := (bi.setB 39 true (by rfl) aa).kp
      refine Rk 9 8 [(tB 47 ((IntKind.i64.wrap (((x18.1.length : Nat) : Int) + ((x24.1.length : Nat) : Int))) == 0))] d3 f fun b9 bj => ?_
      rcases Bool.eq_false_or_eq_true (((IntKind.i64.wrap (((x18.1.length : Nat) : Int) + ((x24.1.length : Nat) : Int))) == 0)) with ab | ab
      ·
       rw [ab, cond_true] at i
       have bk : Kn 84 [] [(tB 47 true)] b9 := (bj.setB 47 true (by rfl) ab).kp
       obtain ⟨x48, ex48, i⟩ := bnd i
       refine wpFrom_loud _ rfl (wantedS_sound bk (by kernel_rfl)) fun K hK => ?_
       refine wc [] bk f (law_wakes_ok n f.has  ex48) fun f4 ev gj ca d4 bq => ?_
       obtain rfl := ca
       refine ⟨.one (.c (.bool x48)), rfl, fun eg (cp : Kn 84 [] [(tB 48 x48), (tB 47 true)] eg) => hK _ _ ?_⟩
       refine Rk 18 2 [(tB 4 x48)] cp bq fun fd cq => ?_
       refine wf ?_
       obtain rfl := Option.some.inj i
       exact Exists.intro _ ⟨_, rfl, cq.kp, bq, d4⟩
      ·
       rw [ab, cond_false] at i
       have cr : Kn 84 [] [(tB 47 false)] b9 := (bj.setB 47 false (by rfl) ab).kp
       refine Rk 17 3 [(tB 4 false)] cr f fun fe cs => ?_
       refine wf ?_
       obtain rfl := Option.some.inj i
       exact Exists.intro _ ⟨_, rfl, cs.kp, f, (Heap.le_refl _)⟩
     ·
      rw [aa, cond_false] at i
      have ct : Kn 84 [] [(tB 39 false), (tS 7 d x24.1.length e), (tS 5 a x18.1.length b)] b8 := (bi.setB 39 false (by rfl) aa).kp
      refine Rk 9 11 [(tB 4 false)] ct f fun ff cu => ?_
      refine wf ?_
      obtain rfl := Option.some.inj i
      exact Exists.intro _ ⟨_, rfl, cu.kp, f, (Heap.le_refl _)⟩
    ·
     rw [z, cond_false] at i
     have cv : Kn 84 [] [(tB 34 false), (tI 9 x28), (tI 8 x24.2), (tS 7 d x24.1.length e), (tS 5 a x18.1.length b)] b7 := (bh.setB 34 false (by rfl) z).kp
     refine Rk 4 16 [(tB 4 false)] cv f fun fg cw => ?_
     refine wf ?_
     obtain rfl := Option.some.inj i
     exact Exists.intro _ ⟨_, rfl, cw.kp, f, (Heap.le_refl _)⟩
   ·
    rintro _ gk ⟨a4, ap, rfl, cx, ea, e8⟩
    refine wp_ret ?_
    obtain rfl := Option.some.inj H
    exact rt (.one (.c (.bool b1))) cx ea rfl
  ·
   rw [av, cond_false] at H
   refine wp_skip (wp_seq (wp_seq ?_))
   obtain ⟨bz, m, H⟩ := bnd H
   refine wp_mid' (fun a' w' => ∃ (a2 : Array Value) (an : Heap), a' = ⟨a2, []⟩ ∧ Kn 84 [] [(tI 6 x18.2), (tS 5 a x18.1.length b), (tS 0 a_l l.length c_l), (tI 1 minute), (tB 58 bz)] a2 ∧ Mem ⟨w, h, noX⟩ an [] [] [] w' ∧ Heap.le a5 an) ?_ ?_
   ·
    refine wp_region_from (Rk 0 3 ((tB 52 (x24.2 != 0)) :: (tS 7 d x24.1.length e) :: (K8m1 x18 a b a_l l c_l minute)) az f fun b2 a6 => ?_)
    rcases Bool.eq_false_or_eq_true ((x24.2 != 0)) with q | q
    ·
     rw [q, cond_true] at m
     have cy : Kn 84 [] ((tB 52 true) :: (tS 7 d x24.1.length e) :: (K8m1 x18 a b a_l l c_l minute)) b2 := (a6.setB 52 true (by rfl) q).kp
     refine Rk 3 6 ((tB 58 true) :: (K8m1 x18 a b a_l l c_l minute)) cy f fun fh c0 => ?_
     refine wf ?_
     obtain rfl := Option.some.inj m
     exact Exists.intro _ ⟨_, rfl, c0.kp, f, (Heap.le_refl _)⟩
    ·
     rw [q, cond_false] at m
     have c1 : Kn 84 [] ((tB 52 false) :: (tS 7 d x24.1.length e) :: (K8m1 x18 a b a_l l c_l minute)) b2 := (a6.setB 52 false (by rfl) q).kp
     refine Rk 3 2 ((tS 54 a_l l.length c_l) :: (tS 53 d x24.1.length e) :: (tB 52 false) :: (K8m1 x18 a b a_l l c_l minute)) c1 f fun fi a7 => ?_
     obtain ⟨x55, ex55, m⟩ := bnd m
     refine wpFrom_loud _ rfl (wantedS_sound a7 (by kernel_rfl)) fun K hK => ?_
     refine wc [.c (.slice a_l l.length c_l)] a7 f (ref_Void_ok n f.has l hr_l ex55) fun f5 ew gl cb bl bs => ?_
     replace ae := ae.mono bl
     obtain ⟨af, ai, rfl, ec⟩ := cb
     refine ⟨.one (.c (.slice af x55.length ai)), rfl, fun ei (a8 : Kn 84 [] ((tS 55 af x55.length ai) :: (tS 54 a_l l.length c_l) :: (tS 53 d x24.1.length e) :: (tB 52 false) :: (K8m1 x18 a b a_l l c_l minute)) ei) => hK _ _ ?_⟩
     obtain ⟨x56, ex56, m⟩ := bnd m
     refine wpFrom_loud _ rfl (wantedS_sound a8 (by kernel_rfl)) fun K hK => ?_
     refine wc [.c (.slice d x24.1.length e), .c (.slice af x55.length ai)] a8 bs (law_ints_ok n bs.has x24.1 ae x55 ec ex56) fun f6 ex gm cc d5 bt => ?_
     obtain rfl := cc
     refine ⟨.one (.c (.bool x56)), rfl, fun ej (c3 : Kn 84 [] ((tB 56 x56) :: (tS 55 af x55.length ai) :: (tS 54 a_l l.length c_l) :: (tS 53 d x24.1.length e) :: (tB 52 false) :: (K8m1 x18 a b a_l l c_l minute)) ej) => hK _ _ ?_⟩
     refine Rk 7 2 ((tB 58 (!x56)) :: (K8m1 x18 a b a_l l c_l minute)) c3 bt fun fk c4 => ?_
     refine wf ?_
     obtain rfl := Option.some.inj m
     exact Exists.intro _ ⟨_, rfl, c4.kp, bt, (Heap.le_trans bl d5)⟩
   ·
    rintro _ gn ⟨a2, an, rfl, aw, ac, bm⟩
    replace hr_l := hr_l.mono bm
    replace k := k.mono bm
    refine wC (bz) aw (fun aq => ?_) (fun aq => ?_)
    ·
     rw [aq, cond_true] at H
     refine wp_seq (wp_region_from (Rk 0 1 [(tB 4 false)] aw ac fun fm c5 => ?_))
     refine wf (wp_ret ?_)
     obtain rfl := Option.some.inj H
     exact rt (.one (.c (.bool false))) c5 ac rfl
    ·
     rw [aq, cond_false] at H
     refine wp_skip (wp_seq (wp_seq (wp_region_from (Rk 0 1 ((tI 59 minute) :: (K8m1 x18 a b a_l l c_l minute)) aw ac fun fn c6 => ?_))))
     obtain ⟨x60, ex60, H⟩ := bnd H
     refine wl fun K hK => ?_
     refine wc [.c (.int .i64 minute), .c (.int .i64 0), .c (.int .i64 1000000)] c6 ac (ref_In_ok n ac.has minute 0 1000000 ex60) fun f7 co go cd bn g => ?_
     replace hr_l := hr_l.mono bn
     replace k := k.mono bn
     obtain rfl := cd
     refine ⟨.one (.c (.bool x60)), rfl, fun ek (c8 : Kn 84 [] ((tB 60 x60) :: (tI 59 minute) :: (K8m1 x18 a b a_l l c_l minute)) ek) => hK _ _ ?_⟩
     refine Rk 2 1 ((tB 61 (!x60)) :: (K8m1 x18 a b a_l l c_l minute)) c8 g fun fo ax => ?_
     refine wf (wC ((!x60)) ax (fun ar => ?_) (fun ar => ?_))
     ·
      rw [ar, cond_true] at H
      refine wp_seq ?_
      obtain ⟨b0, j, H⟩ := bnd H
      refine wp_mid' (fun a' w' => ∃ (a3 : Array Value) (ao : Heap), a' = ⟨a3, []⟩ ∧ Kn 84 [] [(tB 4 b0)] a3 ∧ Mem ⟨w, h, noX⟩ ao [] [] [] w' ∧ Heap.le co ao) ?_ ?_
      ·
       refine wp_region_from (Rk 0 3 [(tB 64 (x18.2 == 2)), (tS 5 a x18.1.length b)] ax g fun b3 a9 => ?_)
       rcases Bool.eq_false_or_eq_true ((x18.2 == 2)) with s | s
       ·
        rw [s, cond_true] at j
        have c9 : Kn 84 [] [(tB 64 true), (tS 5 a x18.1.length b)] b3 := (a9.setB 64 true (by rfl) s).kp
        refine Rk 3 5 [(tB 69 (((x18.1.length : Nat) : Int) == 0))] c9 g fun b4 ba => ?_
        rcases Bool.eq_false_or_eq_true ((((x18.1.length : Nat) : Int) == 0)) with u | u
        ·
         rw [u, cond_true] at j
         have bb : Kn 84 [] [(tB 69 true)] b4 := (ba.setB 69 true (by rfl) u).kp
         obtain ⟨x70, ex70, j⟩ := bnd j
         refine wpFrom_loud _ rfl (wantedS_sound bb (by kernel_rfl)) fun K hK => ?_
         refine wc [] bb g (law_wakes_ok n g.has  ex70) fun f9 ey gp ce d6 bu => ?_
         obtain rfl := ce
         refine ⟨.one (.c (.bool x70)), rfl, fun el (da : Kn 84 [] [(tB 70 x70), (tB 69 true)] el) => hK _ _ ?_⟩
         refine Rk 9 2 [(tB 4 x70)] da bu fun fp db => ?_
         refine wf ?_
         obtain rfl := Option.some.inj j
         exact Exists.intro _ ⟨_, rfl, db.kp, bu, d6⟩
        ·
         rw [u, cond_false] at j
         have dc : Kn 84 [] [(tB 69 false)] b4 := (ba.setB 69 false (by rfl) u).kp
         refine Rk 8 3 [(tB 4 false)] dc g fun fq dd => ?_
         refine wf ?_
         obtain rfl := Option.some.inj j
         exact Exists.intro _ ⟨_, rfl, dd.kp, g, (Heap.le_refl _)⟩
       ·
        rw [s, cond_false] at j
        have df : Kn 84 [] [(tB 64 false), (tS 5 a x18.1.length b)] b3 := (a9.setB 64 false (by rfl) s).kp
        refine Rk 3 8 [(tB 4 false)] df g fun fr dg => ?_
        refine wf ?_
        obtain rfl := Option.some.inj j
        exact Exists.intro _ ⟨_, rfl, dg.kp, g, (Heap.le_refl _)⟩
      ·
       rintro _ gr ⟨a3, ao, rfl, dh, eb, e9⟩
       refine wp_ret ?_
       obtain rfl := Option.some.inj H
       exact rt (.one (.c (.bool b0))) dh eb rfl
     ·
      rw [ar, cond_false] at H
      refine wp_skip (wp_seq (wp_region_from (Rk 0 3 [(tB 74 (x18.2 == 0)), (tS 5 a x18.1.length b), (tS 0 a_l l.length c_l), (tI 1 minute)] ax g fun b5 bc => ?_)))
      rcases Bool.eq_false_or_eq_true ((x18.2 == 0)) with x | x
      ·
       rw [x, cond_true] at H
       have di : Kn 84 [] [(tB 74 true), (tS 5 a x18.1.length b), (tS 0 a_l l.length c_l), (tI 1 minute)] b5 := (bc.setB 74 true (by rfl) x).kp
       refine Rk 3 3 [(tI 77 minute), (tS 76 a_l l.length c_l), (tS 75 a x18.1.length b), (tB 74 true)] di g fun fs bd => ?_
       obtain ⟨x78, ex78, H⟩ := bnd H
       refine wpFrom_loud _ rfl (wantedS_sound bd (by kernel_rfl)) fun K hK => ?_
       refine wc [.c (.slice a_l l.length c_l), .c (.int .i64 minute)] bd g (ref_Fit_ok n g.has l hr_l minute ex78) fun ga e0 gs cg d7 bv => ?_
       replace k := k.mono d7
       obtain ⟨ag, aj, rfl, ed⟩ := cg
       refine ⟨.one (.c (.slice ag x78.length aj)), rfl, fun em (be : Kn 84 [] [(tS 78 ag x78.length aj), (tI 77 minute), (tS 76 a_l l.length c_l), (tS 75 a x18.1.length b), (tB 74 true)] em) => hK _ _ ?_⟩
       obtain ⟨x79, ex79, H⟩ := bnd H
       refine wpFrom_loud _ rfl (wantedS_sound be (by kernel_rfl)) fun K hK => ?_
       refine wc [.c (.slice a x18.1.length b), .c (.slice ag x78.length aj)] be bv (law_ints_ok n bv.has x18.1 k x78 ed ex79) fun gb e1 gu ch fa ad => ?_
       obtain rfl := ch
       refine ⟨.one (.c (.bool x79)), rfl, fun en (dj : Kn 84 [] [(tB 79 x79), (tS 78 ag x78.length aj), (tI 77 minute), (tS 76 a_l l.length c_l), (tS 75 a x18.1.length b), (tB 74 true)] en) => hK _ _ ?_⟩
       refine Rk 8 2 [(tB 81 x79)] dj ad fun b6 bf => ?_
       rcases Bool.eq_false_or_eq_true (x79) with y | y
       ·
        rw [y, cond_true] at H
        have bg : Kn 84 [] [(tB 81 true)] b6 := (bf.setB 81 true (by rfl) y).kp
        obtain ⟨x82, ex82, H⟩ := bnd H
        refine wpFrom_loud _ rfl (wantedS_sound bg (by kernel_rfl)) fun K hK => ?_
        refine wc [] bg ad (law_wakes_ok n ad.has  ex82) fun gc e2 gv ci fb bw => ?_
        obtain rfl := ci
        refine ⟨.one (.c (.bool x82)), rfl, fun eo (dk : Kn 84 [] [(tB 82 x82), (tB 81 true)] eo) => hK _ _ ?_⟩
        refine Rk 11 2 [(tB 4 x82)] dk bw fun ft dl => ?_
        refine wf (wp_ret ?_)
        obtain rfl := Option.some.inj H
        exact rt (.one (.c (.bool x82))) dl bw rfl
       ·
        rw [y, cond_false] at H
        have dm : Kn 84 [] [(tB 81 false)] b6 := (bf.setB 81 false (by rfl) y).kp
        refine Rk 10 3 [(tB 4 false)] dm ad fun fu dn => ?_
        refine wf (wp_ret ?_)
        obtain rfl := Option.some.inj H
        exact rt (.one (.c (.bool false))) dn ad rfl
      ·
       rw [x, cond_false] at H
       have dp : Kn 84 [] [(tB 74 false), (tS 5 a x18.1.length b), (tS 0 a_l l.length c_l), (tI 1 minute)] b5 := (bc.setB 74 false (by rfl) x).kp
       refine Rk 3 10 [(tB 4 false)] dp g fun fv dq => ?_
       refine wf (wp_ret ?_)
       obtain rfl := Option.some.inj H
       exact rt (.one (.c (.bool false))) dq g rfl
end Go.Proofs.Ytkbphdjemgibnaa
