/- Each call computes its plain function. -/
import Derived.Test.YtkbphdjemgibnaaProg
import Derived.Test.YtkbphdjemgibnaaOrP0
import Derived.Test.YtkbphdjemgibnaaOrWA
import Derived.Test.YtkbphdjemgibnaaOrWR
import Derived.Test.YtkbphdjemgibnaaOrWS
import Derived.Test.YtkbphdjemgibnaaOrWW
set_option linter.all false
namespace Go.Proofs.Ytkbphdjemgibnaa
open Go Go.RowKit
open Rep (rep)
open KRep (kv)
open VRep (rv)
abbrev K9e1 (f g : Nat) (which : IK .u8) (l : List Card) : Env := [(f, g + (Int.tmod (IntKind.i64.wrap which.n) ((l.length : Nat) : Int) : Int).toNat * 6)]
abbrev K9c2 (x49 : Card) : List SC := [.int .i64 x49.bus, .int .i64 x49.number, .int .i64 x49.minute, .int .u8 x49.kind.n, .int .i64 x49.part, .int .i64 x49.sg]
abbrev K9c3 (x71 : Card) : List SC := [.int .i64 x71.bus, .int .i64 x71.number, .int .i64 x71.minute, .int .u8 x71.kind.n, .int .i64 x71.part, .int .i64 x71.sg]
abbrev K9e4 (f g : Nat) (which : IK .u8) (l : List Card) (aq au : Nat) (twice : IK .u8) : Env := [(f, g + (Int.tmod (IntKind.i64.wrap which.n) ((l.length : Nat) : Int) : Int).toNat * 6), (aq, au + (Int.tmod (IntKind.i64.wrap twice.n) ((l.length : Nat) : Int) : Int).toNat * 6)]
abbrev K9m5 (a : Option Addr) (x80 : (List Int) × Int) (b : Nat) (x49 : Card) : TM := [(tS 15 a x80.1.length b), (tI 13 x49.bus)]
abbrev K9m6 (by_ : IK .u8) (l : List Card) (a_l : Option Addr) (c_l : Nat) (x55 : List Card) (x49 : Card) (x42 : Int) (twice : IK .u8) : TM := [(tI 58 (Int.tmod (IntKind.i64.wrap by_.n) ((l.length : Nat) : Int))), (tS 57 a_l l.length c_l), (tS 55 (subAt 6 a_l c_l (Int.tmod (IntKind.i64.wrap by_.n) ((l.length : Nat) : Int) : Int).toNat) x55.length (c_l - (Int.tmod (IntKind.i64.wrap by_.n) ((l.length : Nat) : Int) : Int).toNat)), (tI 13 x49.bus), (tI 12 x42), (tS 0 a_l l.length c_l), (2, .one (.c (.int .u8 twice.n)))]
abbrev K9m7 (x80 : (List Int) × Int) (a : Option Addr) (b : Nat) (p : Option Addr) (k : List Card) (q : Nat) (x49 : Card) (x42 : Int) (a_l : Option Addr) (l : List Card) (c_l : Nat) : TM := [(tI 16 x80.2), (tS 15 a x80.1.length b), (tS 14 p k.length q), (tI 13 x49.bus), (tI 12 x42), (tS 0 a_l l.length c_l)]
abbrev K9m8 (a_l : Option Addr) (l : List Card) (c_l : Nat) (by_ twice which : IK .u8) (minute : IK .u32) : TM := [(tS 0 a_l l.length c_l), (1, .one (.c (.int .u8 by_.n))), (2, .one (.c (.int .u8 twice.n))), (3, .one (.c (.int .u8 which.n))), (4, .one (.c (.int .u32 minute.n)))]
abbrev K9m9 (s : Option Addr) (x108 : (List Int) × Int) (u : Nat) (x : Option Addr) (x102 : (List Int) × Int) (y : Nat) (d : Option Addr) (x95 : (List Int) × Int) (e : Nat) (m : Option Addr) (x88 : (List Int) × Int) (o : Nat) (a : Option Addr) (x80 : (List Int) × Int) (b : Nat) (x49 : Card) : TM := (tS 23 s x108.1.length u) :: (tS 21 x x102.1.length y) :: (tS 19 d x95.1.length e) :: (tS 17 m x88.1.length o) :: (K9m5 a x80 b x49)
set_option maxRecDepth 100000 in
set_option maxHeartbeats 4000000 in
theorem law_PitOrder_ok (n : Nat) {h : Heap} {w : World} (hh : Has h w) (l : List Card) {a_l : Option Addr} {c_l : Nat} (hr_l : RepS h a_l c_l l) (by_ : IK .u8) (twice : IK .u8) (which : IK .u8) (minute : IK .u32) {r : Bool} (H : law_PitOrder n l by_ twice which minute = some r) :
  Calls Try.prog 9 #[.slice a_l l.length c_l, .int .u8 by_.n, .int .u8 twice.n, .int .u8 which.n, .int .u32 minute.n] w (Ret (fun h v => v = .bool r) h w) := by
 refine enter 167 [.c (.slice a_l l.length c_l), .c (.int .u8 by_.n), .c (.int .u8 twice.n), .c (.int .u8 which.n), .c (.int .u32 minute.n)] Try.func9 rfl rfl rfl rfl fun t hk => ?_
 have hm := Mem.begin h w hh
 unfold law_PitOrder at H
 refine wp_seq (wp_region_from (Rk 0 1 (K9m8 a_l l c_l by_ twice which minute) hk hm fun k2 fy => ?_))
 refine wf (wp_seq (wp_seq ?_))
 obtain ⟨c6, az, H⟩ := bnd H
 refine wp_mid' (fun a' w' => ∃ (c9 : Array Value) (b6 : Heap), a' = ⟨c9, []⟩ ∧ Kn 167 [] [(tS 0 a_l l.length c_l), (1, .one (.c (.int .u8 by_.n))), (2, .one (.c (.int .u8 twice.n))), (3, .one (.c (.int .u8 which.n))), (4, .one (.c (.int .u32 minute.n))), (tB 34 c6)] c9 ∧ Mem ⟨w, h, noX⟩ b6 [] [] [] w' ∧ Heap.le h b6) ?_ ?_
 ·
  refine wp_region_from (Rk 0 1 ((tS 27 a_l l.length c_l) :: (K9m8 a_l l c_l by_ twice which minute)) fy hm fun mb h5 => ?_)
  obtain ⟨x28, ex28, az⟩ := bnd az
  refine wl fun K hK => ?_
  refine wc [.c (.slice a_l l.length c_l)] h5 hm (law_ready_ok n hm.has l hr_l ex28) fun mz kx m0 em dw br => ?_
  obtain rfl := em
  refine ⟨.one (.c (.bool x28)), rfl, fun jd (fn : Kn 167 [] ((tB 28 x28) :: (tS 27 a_l l.length c_l) :: (K9m8 a_l l c_l by_ twice which minute)) jd) => hK _ _ ?_⟩
  refine Rk 2 2 ((tB 30 (!x28)) :: (K9m8 a_l l c_l by_ twice which minute)) fn br fun eb df => ?_
  rcases Bool.eq_false_or_eq_true ((!x28)) with bf | bf
  ·
   rw [bf, cond_true] at az
   have fv : Kn 167 [] ((tB 30 true) :: (K9m8 a_l l c_l by_ twice which minute)) eb := (df.setB 30 true (by rfl) bf).kp
   refine Rk 4 4 ((tB 34 true) :: (K9m8 a_l l c_l by_ twice which minute)) fv br fun la f1 => ?_
   refine wf ?_
   obtain rfl := Option.some.inj az
   exact Exists.intro _ ⟨_, rfl, f1.kp, br, dw⟩
  ·
   rw [bf, cond_false] at az
   have f3 : Kn 167 [] ((tB 30 false) :: (K9m8 a_l l c_l by_ twice which minute)) eb := (df.setB 30 false (by rfl) bf).kp
   refine Rk 4 4 ((tB 34 (((l.length : Nat) : Int) == 0)) :: (K9m8 a_l l c_l by_ twice which minute)) f3 br fun lf f7 => ?_
   refine wf ?_
   obtain rfl := Option.some.inj az
   exact Exists.intro _ ⟨_, rfl, f7.kp, br, dw⟩
 ·
  rintro _ kb ⟨c9, b6, rfl, cq, al, ih⟩
  replace hr_l := hr_l.mono ih
  refine wC (c6) cq (fun cm => ?_) (fun cm => ?_)
  ·
   rw [cm, cond_true] at H
   refine wp_seq (wp_region_from ?_)
   obtain ⟨x35, ex35, H⟩ := bnd H
   refine wl fun K hK => ?_
   refine wc [] cq al (law_wakes_ok n al.has  ex35) fun mo ko nb ez kz d5 => ?_
   obtain rfl := ez
   refine ⟨.one (.c (.bool x35)), rfl, fun ju (gz : Kn 167 [] [(tB 35 x35), (tS 0 a_l l.length c_l), (1, .one (.c (.int .u8 by_.n))), (2, .one (.c (.int .u8 twice.n))), (3, .one (.c (.int .u8 which.n))), (4, .one (.c (.int .u32 minute.n))), (tB 34 c6)] ju) => hK _ _ ?_⟩
   refine Rk 1 1 [(tB 10 x35)] gz d5 fun lw g9 => ?_
   refine wf (wp_ret ?_)
   obtain rfl := Option.some.inj H
   exact rt (.one (.c (.bool x35))) g9 d5 rfl
  ·
   rw [cm, cond_false] at H
   refine wp_skip (wp_seq (wp_region_G (by kernel_rfl) ?_))
   replace al := al.drew
   refine wpG_of_D [] [] [] ?_
   refine Dr [0, 1, 2, 3] (dn 3) [(tI 39 ((l.length : Nat) : Int)), (tI 37 (IntKind.i64.wrap by_.n)), (tS 0 a_l l.length c_l), (2, .one (.c (.int .u8 twice.n))), (3, .one (.c (.int .u8 which.n))), (4, .one (.c (.int .u32 minute.n)))] cq al fun l0 hf => ?_
   obtain ⟨x40, ex40, H⟩ := bnd H
   refine D_rem 4 (fun _ _ _ _ _ h => h) hf rfl rfl (rfl) rfl (by decide) (by kernel_rfl) (by kernel_rfl) al.plOk (by rfl) (by rfl) (nz_some ex40) fun jw (hq : Kn 167 [] [(tI 40 (Int.tmod (IntKind.i64.wrap by_.n) ((l.length : Nat) : Int))), (tI 39 ((l.length : Nat) : Int)), (tI 37 (IntKind.i64.wrap by_.n)), (tS 0 a_l l.length c_l), (2, .one (.c (.int .u8 twice.n))), (3, .one (.c (.int .u8 which.n))), (4, .one (.c (.int .u32 minute.n)))] jw) => ?_
   refine Dr [5, 7, 8, 9, 10, 11] [11, 10, 9, 8, 7, 5, 4, 3, 2, 1, 0] [(tI 47 ((l.length : Nat) : Int)), (tI 45 (IntKind.i64.wrap which.n)), (tS 43 a_l l.length c_l), (41, .one (.c (.int .u32 minute.n))), (tI 40 (Int.tmod (IntKind.i64.wrap by_.n) ((l.length : Nat) : Int))), (tS 0 a_l l.length c_l), (2, .one (.c (.int .u8 twice.n)))] hq al fun l6 hv => ?_
   obtain ⟨x48, ex48, H⟩ := bnd H
   refine D_rem 12 (fun _ _ _ _ _ h => h) hv rfl rfl (rfl) rfl (by decide) (by kernel_rfl) (by kernel_rfl) al.plOk (by rfl) (by rfl) (nz_some ex48) fun j0 (hy : Kn 167 [] [(tI 48 (Int.tmod (IntKind.i64.wrap which.n) ((l.length : Nat) : Int))), (tI 47 ((l.length : Nat) : Int)), (tI 45 (IntKind.i64.wrap which.n)), (tS 43 a_l l.length c_l), (41, .one (.c (.int .u32 minute.n))), (tI 40 (Int.tmod (IntKind.i64.wrap by_.n) ((l.length : Nat) : Int))), (tS 0 a_l l.length c_l), (2, .one (.c (.int .u8 twice.n)))] j0) => ?_
   obtain ⟨x49, ex49, H⟩ := bnd H
   obtain ⟨io, iu, ja⟩ := idx_some ex49
   obtain ⟨f, g, ke, e9, i8, fd⟩ := hr_l.get (by decide) ja
   obtain ⟨_, _, rfl, rfl, ⟨_, _, rfl, rfl, ⟨_, _, rfl, rfl, ⟨_, _, rfl, rfl, ⟨_, _, rfl, rfl, rfl⟩⟩⟩⟩⟩ := i8
   have c0 : Mem ⟨w, h, noX⟩ b6 (K9e1 f g which l) [⟨(K9c2 x49), none⟩] [] (World.drew kb) := al.addPlc (cs := (K9c2 x49)) (fun j c hj => fd j _ (map_get hj)) rfl (by kernel_rfl) (by kernel_rfl)
   refine D_index 13 (Int.tmod (IntKind.i64.wrap which.n) ((l.length : Nat) : Int)) (K9c2 x49) (fun _ _ _ _ _ h => h) rfl rfl (rfl) rfl (by decide) (by kernel_rfl) (by kernel_rfl) hy al.plOk (by rfl) (by rfl) (by rfl) e9 (by rfl) io iu (by kernel_rfl) fun j2 (h2 : Kn 167 (K9e1 f g which l) [(tP 49 0 0), (tI 48 (Int.tmod (IntKind.i64.wrap which.n) ((l.length : Nat) : Int))), (tI 47 ((l.length : Nat) : Int)), (tI 45 (IntKind.i64.wrap which.n)), (tS 43 a_l l.length c_l), (41, .one (.c (.int .u32 minute.n))), (tI 40 (Int.tmod (IntKind.i64.wrap by_.n) ((l.length : Nat) : Int))), (tS 0 a_l l.length c_l), (2, .one (.c (.int .u8 twice.n)))] j2) => ?_
   refine Dr [14, 15] [15, 14, 13, 12, 11, 10, 9, 8, 7, 5, 4, 3, 2, 1, 0] [(tI 51 x49.bus), (41, .one (.c (.int .u32 minute.n))), (tI 40 (Int.tmod (IntKind.i64.wrap by_.n) ((l.length : Nat) : Int))), (tS 0 a_l l.length c_l), (2, .one (.c (.int .u8 twice.n)))] h2 c0 fun mc h3 => ?_
   obtain ⟨x42, ex42, H⟩ := bnd H
   refine Dl 6 fun K hK => ?_
   refine wc [.c (.int .u32 minute.n)] h3 c0 (law_minuted_ok n c0.has minute ex42) fun my ae nl e6 ij an => ?_
   replace hr_l := hr_l.mono ij
   obtain rfl := e6
   refine ⟨.one (.c (.int .i64 x42)), rfl, fun j3 (h4 : Kn 167 (K9e1 f g which l) [(tI 42 x42), (tI 51 x49.bus), (41, .one (.c (.int .u32 minute.n))), (tI 40 (Int.tmod (IntKind.i64.wrap by_.n) ((l.length : Nat) : Int))), (tS 0 a_l l.length c_l), (2, .one (.c (.int .u8 twice.n)))] j3) => hK _ _ an.plOk ?_⟩
   refine Dr [16, 17, 18] [18, 17, 16, 6, 15, 14, 13, 12, 11, 10, 9, 8, 7, 5, 4, 3, 2, 1, 0] [(tI 13 x49.bus), (tI 12 x42), (tI 11 (Int.tmod (IntKind.i64.wrap by_.n) ((l.length : Nat) : Int))), (tS 0 a_l l.length c_l), (2, .one (.c (.int .u8 twice.n)))] h4 an fun md h6 => ?_
   refine wpD_end (by kernel_rfl) (wp_seq (wp_region_G (by kernel_rfl) ?_))
   replace an := an.drew
   refine wpG_of_D [] (K9e1 f g which l) [⟨(K9c2 x49), none⟩] ?_
   refine Dr [1, 2] [2, 1] [(tI 54 (Int.tmod (IntKind.i64.wrap by_.n) ((l.length : Nat) : Int))), (tS 53 a_l l.length c_l), (tI 13 x49.bus), (tI 12 x42), (tI 11 (Int.tmod (IntKind.i64.wrap by_.n) ((l.length : Nat) : Int))), (tS 0 a_l l.length c_l), (2, .one (.c (.int .u8 twice.n)))] h6 an fun me h7 => ?_
   obtain ⟨x55, ex55, H⟩ := bnd H
   obtain ⟨ip, iv, d8⟩ := sub_some ex55
   have i2 : RepS ae (subAt 6 a_l c_l (Int.tmod (IntKind.i64.wrap by_.n) ((l.length : Nat) : Int) : Int).toNat) (c_l - (Int.tmod (IntKind.i64.wrap by_.n) ((l.length : Nat) : Int) : Int).toNat) x55 := by rw [d8]; exact RepS.drop (sz := 6) rfl hr_l (by omega)
   have ik : l.length - (Int.tmod (IntKind.i64.wrap by_.n) ((l.length : Nat) : Int) : Int).toNat = x55.length := by rw [d8, List.length_drop]
   refine D_slice (E := 24) 3 6 _ (fun _ _ _ _ _ h => h) h7 rfl rfl (rfl) rfl (by decide) (by kernel_rfl) (by kernel_rfl) an.plOk (by rfl) (by rfl) (by kernel_rfl) (by kernel_rfl) ip iv ik fun j4 (h8 : Kn 167 (K9e1 f g which l) [(tS 55 (subAt 6 a_l c_l (Int.tmod (IntKind.i64.wrap by_.n) ((l.length : Nat) : Int) : Int).toNat) x55.length (c_l - (Int.tmod (IntKind.i64.wrap by_.n) ((l.length : Nat) : Int) : Int).toNat)), (tI 54 (Int.tmod (IntKind.i64.wrap by_.n) ((l.length : Nat) : Int))), (tS 53 a_l l.length c_l), (tI 13 x49.bus), (tI 12 x42), (tI 11 (Int.tmod (IntKind.i64.wrap by_.n) ((l.length : Nat) : Int))), (tS 0 a_l l.length c_l), (2, .one (.c (.int .u8 twice.n)))] j4) => ?_
   refine Dr [5, 6] [6, 5, 3, 2, 1] (K9m6 by_ l a_l c_l x55 x49 x42 twice) h8 an fun mf dv => ?_
   obtain ⟨x59, ex59, H⟩ := bnd H
   obtain ⟨iq, k1, d9⟩ := subTo_some ex59
   have ky : l.length ≤ c_l := hr_l.cap
   have i3 : RepS ae a_l c_l x59 := by rw [d9]; exact hr_l.take _
   have il : (Int.tmod (IntKind.i64.wrap by_.n) ((l.length : Nat) : Int) : Int).toNat = x59.length := by rw [d9, List.length_take]; omega
   refine D_one 7 (.one (.c (.slice a_l x59.length c_l))) (fun _ _ _ _ _ h => h) rfl (by kernel_rfl) (by kernel_rfl) (rfl) rfl an.plOk (fun _ h => h) (fun w => run_sliceT (T := 22) (E := 24) (sz := 6) dv rfl rfl rfl (by kernel_rfl) (by kernel_rfl) iq (by omega) il) (dv.put (by decide) _) fun j5 (h9 : Kn 167 (K9e1 f g which l) ((tS 59 a_l x59.length c_l) :: (K9m6 by_ l a_l c_l x55 x49 x42 twice)) j5) => ?_
   refine Dl 0 fun K hK => ?_
   refine wS 24 6 [] h9 an fun b1 j6 kc (ia : Kn 167 (K9e1 f g which l) ((tS 52 b1 0 0) :: (tS 59 a_l x59.length c_l) :: (K9m6 by_ l a_l c_l x55 x49 x42 twice)) j6) (c1 : Mem ⟨w, h, noX⟩ ae (K9e1 f g which l) [⟨(K9c2 x49), none⟩] [⟨b1, 0, 0, 24, 6, ([] : List Value), 0⟩] kc) => ?_
   have fe : Cells ae ([] : List Card) ([] : List Value) := Cells.nil
   refine hK _ _ c1.plOk ?_
   obtain ⟨ai, b8, i6, _⟩ := id i2
   obtain ⟨x56, ex56, H⟩ := bnd H
   obtain ⟨c3, ib⟩ := app_some ex56
   refine Dl 4 fun K hK => ?_
   refine wp_append 0 48 x55.length _ (x56.length) _ ai ia c1 rfl rfl (by decide) rfl (by rfl) (by kernel_rfl) (by rfl) (by rfl) (Cells.len b8) (i6.cell c1.has b8.one) b8.one (by rw [c3]; simp <;> omega) (by rw [c3]; exact ib) (by decide) fun ci cj da jb j7 ff (fi : Kn 167 (K9e1 f g which l) ((tS 56 ci x56.length cj) :: (tS 52 b1 0 0) :: (tS 59 a_l x59.length c_l) :: (K9m6 by_ l a_l c_l x55 x49 x42 twice)) jb) (cu : Mem ⟨w, h, noX⟩ ae (K9e1 f g which l) [⟨(K9c2 x49), none⟩] [⟨ci, x56.length, cj, 24, 6, (([] : List Value) ++ ai), da⟩] j7) => ?_
   have fa : Cells ae x56 (([] : List Value) ++ ai) := by rw [c3]; exact Cells.append fe b8
   obtain rfl : da = 0 := Nat.le_zero.1 ff
   refine hK _ _ cu.plOk ?_
   obtain ⟨ap, b7, i5, _⟩ := id i3
   obtain ⟨x60, ex60, H⟩ := bnd H
   obtain ⟨c4, ic⟩ := app_some ex60
   refine Dl 8 fun K hK => ?_
   refine wp_append 0 48 x59.length _ (x60.length) _ ap fi cu rfl rfl (by decide) rfl (by rfl) (by kernel_rfl) (by rfl) (by rfl) (Cells.len b7) (i5.cell cu.has b7.one) b7.one (by rw [c4]; simp <;> omega) (by rw [c4]; exact ic) (by decide) fun af ag db jc el fg (fj : Kn 167 (K9e1 f g which l) ((tS 60 af x60.length ag) :: (tS 56 ci x56.length cj) :: (tS 52 b1 0 0) :: (tS 59 a_l x59.length c_l) :: (K9m6 by_ l a_l c_l x55 x49 x42 twice)) jc) (a4 : Mem ⟨w, h, noX⟩ ae (K9e1 f g which l) [⟨(K9c2 x49), none⟩] [⟨af, x60.length, ag, 24, 6, ((([] : List Value) ++ ai) ++ ap), db⟩] el) => ?_
   have de : Cells ae x60 ((([] : List Value) ++ ai) ++ ap) := by rw [c4]; exact Cells.append fa b7
   obtain rfl : db = 0 := Nat.le_zero.1 fg
   refine hK _ _ a4.plOk ?_
   refine Dr [9] [9, 8, 4, 0, 7, 6, 5, 3, 2, 1] [(tS 14 af x60.length ag), (tI 13 x49.bus), (tI 12 x42), (tS 0 a_l l.length c_l), (2, .one (.c (.int .u8 twice.n)))] fj a4 fun k3 fk => ?_
   refine wpD_end (by kernel_rfl) (wp_seq (wp_seq (wp_region_from (Rk 0 3 [(tB 63 (decide (((x60.length : Nat) : Int) < 40))), (tS 14 af x60.length ag), (tI 13 x49.bus), (tI 12 x42), (tS 0 a_l l.length c_l), (2, .one (.c (.int .u8 twice.n)))] fk a4 fun k4 cp => ?_))))
   refine wf ?_
   obtain ⟨k, aj, H⟩ := bnd H
   refine wp_mid' (fun a' w' => ∃ (p : Option Addr) (q : Nat) (ay : List Value) (c7 : Array Value) (b5 : Heap), a' = ⟨c7, []⟩ ∧ Kn 167 (K9e1 f g which l) [(tS 14 p k.length q), (tI 13 x49.bus), (tI 12 x42), (tS 0 a_l l.length c_l)] c7 ∧ Mem ⟨w, h, noX⟩ b5 (K9e1 f g which l) [⟨(K9c2 x49), none⟩] [⟨p, k.length, q, 24, 6, ay, 0⟩] w' ∧ Heap.le ae b5 ∧ Cells b5 k ay) ?_ ?_
   ·
    refine wC (decide (((x60.length : Nat) : Int) < 40)) cp (fun cl => ?_) (fun cl => ?_)
    ·
     rw [cl, cond_true] at aj
     refine wp_region_from (Rk 0 6 [(tI 69 ((l.length : Nat) : Int)), (tI 67 (IntKind.i64.wrap twice.n)), (tS 65 a_l l.length c_l), (tS 64 af x60.length ag), (tI 13 x49.bus), (tI 12 x42), (tS 0 a_l l.length c_l)] cp a4 fun k5 fl => ?_)
     obtain ⟨x70, ex70, aj⟩ := bnd aj
     refine R_rem 6 fl rfl rfl (rfl) rfl (by decide) (by rfl) (by rfl) (nz_some ex70) fun je (fm : Kn 167 (K9e1 f g which l) [(tI 70 (Int.tmod (IntKind.i64.wrap twice.n) ((l.length : Nat) : Int))), (tI 69 ((l.length : Nat) : Int)), (tI 67 (IntKind.i64.wrap twice.n)), (tS 65 a_l l.length c_l), (tS 64 af x60.length ag), (tI 13 x49.bus), (tI 12 x42), (tS 0 a_l l.length c_l)] je) => ?_
     obtain ⟨x71, ex71, aj⟩ := bnd aj
     obtain ⟨im, ir, i9⟩ := idx_some ex71
     obtain ⟨aq, au, kd, e8, i7, fb⟩ := hr_l.get (by decide) i9
     obtain ⟨_, _, rfl, rfl, ⟨_, _, rfl, rfl, ⟨_, _, rfl, rfl, ⟨_, _, rfl, rfl, ⟨_, _, rfl, rfl, rfl⟩⟩⟩⟩⟩ := i7
     have d0 : Mem ⟨w, h, noX⟩ ae (K9e4 f g which l aq au twice) [⟨(K9c2 x49), none⟩, ⟨(K9c3 x71), none⟩] [⟨af, x60.length, ag, 24, 6, ((([] : List Value) ++ ai) ++ ap), 0⟩] el := a4.addPlc (cs := (K9c3 x71)) (fun j c hj => fb j _ (map_get hj)) rfl (by kernel_rfl) (by kernel_rfl)
     refine R_index 7 (Int.tmod (IntKind.i64.wrap twice.n) ((l.length : Nat) : Int)) rfl rfl (rfl) rfl (by decide) fm (by rfl) (by rfl) (by rfl) e8 (by rfl) im ir (by kernel_rfl) fun jf (fo : Kn 167 (K9e4 f g which l aq au twice) [(tP 71 1 0), (tI 70 (Int.tmod (IntKind.i64.wrap twice.n) ((l.length : Nat) : Int))), (tI 69 ((l.length : Nat) : Int)), (tI 67 (IntKind.i64.wrap twice.n)), (tS 65 a_l l.length c_l), (tS 64 af x60.length ag), (tI 13 x49.bus), (tI 12 x42), (tS 0 a_l l.length c_l)] jf) => ?_
     refine Rk 8 1 [(tA 72 (K9c3 x71)), (tS 64 af x60.length ag), (tI 13 x49.bus), (tI 12 x42), (tS 0 a_l l.length c_l)] fo d0 fun k6 fp => ?_
     refine wl fun K hK => ?_
     refine wS 24 6 (K9c3 x71) fp d0 fun bw jg j8 (fq : Kn 167 (K9e4 f g which l aq au twice) [(tS 73 bw 1 1), (tA 72 (K9c3 x71)), (tS 64 af x60.length ag), (tI 13 x49.bus), (tI 12 x42), (tS 0 a_l l.length c_l)] jg) (d1 : Mem ⟨w, h, noX⟩ ae (K9e4 f g which l aq au twice) [⟨(K9c2 x49), none⟩, ⟨(K9c3 x71), none⟩] [⟨af, x60.length, ag, 24, 6, ((([] : List Value) ++ ai) ++ ap), 0⟩, ⟨bw, 1, 1, 24, 6, ([.int .i64 x71.bus, .int .i64 x71.number, .int .i64 x71.minute, .int .u8 x71.kind.n, .int .i64 x71.part, .int .i64 x71.sg] : List Value), 0⟩] j8) => ?_
     have co : Cells ae ([x71] : List Card) ([.int .i64 x71.bus, .int .i64 x71.number, .int .i64 x71.minute, .int .u8 x71.kind.n, .int .i64 x71.part, .int .i64 x71.sg] : List Value) := ⟨_, _, rfl, ((rep_pair rep_int (rep_pair rep_int (rep_pair rep_int (rep_pair rep_ik (rep_pair rep_int rep_int))))) : rep ae (x71 : Card) _), rfl⟩
     refine hK _ _ ?_
     obtain ⟨x74, ex74, aj⟩ := bnd aj
     obtain ⟨c5, ie⟩ := app_some ex74
     refine wl fun K hK => ?_
     refine wp_append 0 48 1 _ (x74.length) _ ([.int .i64 x71.bus, .int .i64 x71.number, .int .i64 x71.minute, .int .u8 x71.kind.n, .int .i64 x71.part, .int .i64 x71.sg] : List Value) fq d1 rfl rfl (by decide) rfl (by rfl) (by kernel_rfl) (by rfl) (by rfl) (Cells.len co) (d1.rowCell (i := 1) rfl) co.one (by rw [c5]; simp <;> omega) (by rw [c5]; exact ie) (by decide) fun bx b2 dc jh j9 fh (fr : Kn 167 (K9e4 f g which l aq au twice) [(tS 74 bx x74.length b2), (tS 73 bw 1 1), (tA 72 (K9c3 x71)), (tS 64 af x60.length ag), (tI 13 x49.bus), (tI 12 x42), (tS 0 a_l l.length c_l)] jh) (d2 : Mem ⟨w, h, noX⟩ ae (K9e4 f g which l aq au twice) [⟨(K9c2 x49), none⟩, ⟨(K9c3 x71), none⟩] [⟨bx, x74.length, b2, 24, 6, (((([] : List Value) ++ ai) ++ ap) ++ ([.int .i64 x71.bus, .int .i64 x71.number, .int .i64 x71.minute, .int .u8 x71.kind.n, .int .i64 x71.part, .int .i64 x71.sg] : List Value)), dc⟩, ⟨bw, 1, 1, 24, 6, ([.int .i64 x71.bus, .int .i64 x71.number, .int .i64 x71.minute, .int .u8 x71.kind.n, .int .i64 x71.part, .int .i64 x71.sg] : List Value), 0⟩] j9) => ?_
     have fc : Cells ae x74 (((([] : List Value) ++ ai) ++ ap) ++ ([.int .i64 x71.bus, .int .i64 x71.number, .int .i64 x71.minute, .int .u8 x71.kind.n, .int .i64 x71.part, .int .i64 x71.sg] : List Value)) := by rw [c5]; exact Cells.append de co
     obtain rfl : dc = 0 := Nat.le_zero.1 fh
     refine hK _ _ ?_
     refine Rk 11 1 [(tS 14 bx x74.length b2), (tI 13 x49.bus), (tI 12 x42), (tS 0 a_l l.length c_l)] fr d2 fun k7 fs => ?_
     refine wf ?_
     obtain rfl := Option.some.inj aj
     exact Exists.intro bx ⟨b2, (((([] : List Value) ++ ai) ++ ap) ++ ([.int .i64 x71.bus, .int .i64 x71.number, .int .i64 x71.minute, .int .u8 x71.kind.n, .int .i64 x71.part, .int .i64 x71.sg] : List Value)), _, _, rfl, ((fs.keep [14, 13, 12, 0] (by rfl)).cut 1 (by kernel_rfl)), ((d2.cutRw 1).cutPl 1 (by kernel_rfl)), (Heap.le_refl _), fc⟩
    ·
     rw [cl, cond_false] at aj
     refine wp_skip ?_
     obtain rfl := Option.some.inj aj
     exact Exists.intro af ⟨ag, ((([] : List Value) ++ ai) ++ ap), _, _, rfl, cp.kp, a4, (Heap.le_refl _), de⟩
   ·
    rintro _ m1 ⟨p, q, ay, c7, b5, rfl, ft, cv, ig, ah⟩
    replace hr_l := hr_l.mono ig
    refine wp_seq (wp_region_from (Rk 0 1 [(tS 76 a_l l.length c_l), (tS 14 p k.length q), (tI 13 x49.bus), (tI 12 x42), (tS 0 a_l l.length c_l)] ft cv fun k8 fu => ?_))
    obtain ⟨x77, ex77, H⟩ := bnd H
    refine wl fun K hK => ?_
    refine wc [.c (.slice a_l l.length c_l)] fu cv (law_Cards_ok n cv.has l hr_l ex77) fun mg kf m2 en dx cw => ?_
    obtain ⟨a7, bb, rfl, iw⟩ := en
    refine ⟨.one (.c (.slice a7 x77.length bb)), rfl, fun ji (fw : Kn 167 (K9e1 f g which l) [(tS 77 a7 x77.length bb), (tS 76 a_l l.length c_l), (tS 14 p k.length q), (tI 13 x49.bus), (tI 12 x42), (tS 0 a_l l.length c_l)] ji) => hK _ _ ?_⟩
    refine Rk 2 2 [(tI 79 x42), (tI 78 x49.bus), (tS 77 a7 x77.length bb), (tS 14 p k.length q), (tI 13 x49.bus), (tI 12 x42), (tS 0 a_l l.length c_l)] fw cw fun k9 fx => ?_
    obtain ⟨x80, ex80, H⟩ := bnd H
    refine wl fun K hK => ?_
    refine wc [.c (.slice a7 x77.length bb), .c (.int .i64 x49.bus), .c (.int .i64 x42)] fx cw (pit_Open_ok n cw.has x77 iw x49.bus x42 ex80) fun mh kg ka eo dy cc => ?_
    obtain ⟨_, _, rfl, ⟨a, b, rfl, ao⟩, rfl⟩ := eo
    refine ⟨.tup [.c (.slice a x80.1.length b), .c (.int .i64 x80.2)], rfl, fun jj (fz : Kn 167 (K9e1 f g which l) [(80, .tup [.c (.slice a x80.1.length b), .c (.int .i64 x80.2)]), (tI 79 x42), (tI 78 x49.bus), (tS 77 a7 x77.length bb), (tS 14 p k.length q), (tI 13 x49.bus), (tI 12 x42), (tS 0 a_l l.length c_l)] jj) => hK _ _ ?_⟩
    refine Rk 5 5 (K9m7 x80 a b p k q x49 x42 a_l l c_l) fz cc fun lb f0 => ?_
    refine wf (wp_seq (wp_region_from (Rk 0 1 ((tS 84 p k.length q) :: (K9m7 x80 a b p k q x49 x42 a_l l c_l)) f0 cc fun lc f2 => ?_)))
    obtain ⟨dd, ct, i4, cd⟩ := cc.settle (i := 0) rfl
    replace ah := ah.mono (Heap.le_trans (Heap.le_trans dx dy) ct)
    replace cd : Mem ⟨w, h, noX⟩ dd (K9e1 f g which l) [⟨(K9c2 x49), none⟩] [⟨p, k.length, q, 24, 6, ay, (ay : List Value).length⟩] ka := cd
    have ad : RepS dd p q k := ⟨_, ah, i4, cc.rowCap (i := 0) rfl⟩
    obtain ⟨x85, ex85, H⟩ := bnd H
    refine wl fun K hK => ?_
    refine wc [.c (.slice p k.length q)] f2 cd (law_Cards_ok n cd.has k ad ex85) fun mi kh m3 ep b9 cx => ?_
    obtain ⟨a8, bc, rfl, ix⟩ := ep
    refine ⟨.one (.c (.slice a8 x85.length bc)), rfl, fun jk (f4 : Kn 167 (K9e1 f g which l) ((tS 85 a8 x85.length bc) :: (tS 84 p k.length q) :: (K9m7 x80 a b p k q x49 x42 a_l l c_l)) jk) => hK _ _ ?_⟩
    refine Rk 2 2 ((tI 87 x42) :: (tI 86 x49.bus) :: (tS 85 a8 x85.length bc) :: (K9m7 x80 a b p k q x49 x42 a_l l c_l)) f4 cx fun ld f5 => ?_
    obtain ⟨x88, ex88, H⟩ := bnd H
    refine wl fun K hK => ?_
    refine wc [.c (.slice a8 x85.length bc), .c (.int .i64 x49.bus), .c (.int .i64 x42)] f5 cx (pit_Open_ok n cx.has x85 ix x49.bus x42 ex88) fun mj ki m4 er ca ce => ?_
    replace hr_l := hr_l.mono (Heap.le_trans (Heap.le_trans (Heap.le_trans (Heap.le_trans dx dy) ct) b9) ca)
    obtain ⟨_, _, rfl, ⟨m, o, rfl, c2⟩, rfl⟩ := er
    refine ⟨.tup [.c (.slice m x88.1.length o), .c (.int .i64 x88.2)], rfl, fun jl (f6 : Kn 167 (K9e1 f g which l) ((88, .tup [.c (.slice m x88.1.length o), .c (.int .i64 x88.2)]) :: (tI 87 x42) :: (tI 86 x49.bus) :: (tS 85 a8 x85.length bc) :: (K9m7 x80 a b p k q x49 x42 a_l l c_l)) jl) => hK _ _ ?_⟩
    refine Rk 5 5 ((tI 18 x88.2) :: (tS 17 m x88.1.length o) :: (K9m7 x80 a b p k q x49 x42 a_l l c_l)) f6 ce fun lg f8 => ?_
    refine wf (wp_seq (wp_region_from (Rk 0 1 ((tS 92 a_l l.length c_l) :: (tI 18 x88.2) :: (tS 17 m x88.1.length o) :: (K9m7 x80 a b p k q x49 x42 a_l l c_l)) f8 ce fun lh f9 => ?_)))
    obtain ⟨x93, ex93, H⟩ := bnd H
    refine wl fun K hK => ?_
    refine wc [.c (.slice a_l l.length c_l)] f9 ce (law_Cards_ok n ce.has l hr_l ex93) fun mk kj m5 es bp cy => ?_
    obtain ⟨a9, bd, rfl, iy⟩ := es
    refine ⟨.one (.c (.slice a9 x93.length bd)), rfl, fun jm (ga : Kn 167 (K9e1 f g which l) ((tS 93 a9 x93.length bd) :: (tS 92 a_l l.length c_l) :: (tI 18 x88.2) :: (tS 17 m x88.1.length o) :: (K9m7 x80 a b p k q x49 x42 a_l l c_l)) jm) => hK _ _ ?_⟩
    refine Rk 2 1 ((tI 94 x42) :: (tS 93 a9 x93.length bd) :: (tI 18 x88.2) :: (tS 17 m x88.1.length o) :: (K9m7 x80 a b p k q x49 x42 a_l l c_l)) ga cy fun li gb => ?_
    obtain ⟨x95, ex95, H⟩ := bnd H
    refine wl fun K hK => ?_
    refine wc [.c (.slice a9 x93.length bd), .c (.int .i64 x42)] gb cy (pit_FitL_ok n cy.has x93 iy x42 ex95) fun ml kk m6 et bq cf => ?_
    replace ad := ad.mono (Heap.le_trans (Heap.le_trans (Heap.le_trans b9 ca) bp) bq)
    obtain ⟨_, _, rfl, ⟨d, e, rfl, am⟩, rfl⟩ := et
    refine ⟨.tup [.c (.slice d x95.1.length e), .c (.int .i64 x95.2)], rfl, fun jn (gc : Kn 167 (K9e1 f g which l) ((95, .tup [.c (.slice d x95.1.length e), .c (.int .i64 x95.2)]) :: (tI 94 x42) :: (tS 93 a9 x93.length bd) :: (tI 18 x88.2) :: (tS 17 m x88.1.length o) :: (K9m7 x80 a b p k q x49 x42 a_l l c_l)) jn) => hK _ _ ?_⟩
    refine Rk 4 5 ((tI 20 x95.2) :: (tS 19 d x95.1.length e) :: (tI 18 x88.2) :: (tS 17 m x88.1.length o) :: (K9m7 x80 a b p k q x49 x42 a_l l c_l)) gc cf fun lj gd => ?_
    refine wf (wp_seq (wp_region_from (Rk 0 1 ((tS 99 p k.length q) :: (tI 20 x95.2) :: (tS 19 d x95.1.length e) :: (tI 18 x88.2) :: (tS 17 m x88.1.length o) :: (K9m7 x80 a b p k q x49 x42 a_l l c_l)) gd cf fun lk gf => ?_)))
    obtain ⟨x100, ex100, H⟩ := bnd H
    refine wl fun K hK => ?_
    refine wc [.c (.slice p k.length q)] gf cf (law_Cards_ok n cf.has k ad ex100) fun mm kl m7 eu a0 cz => ?_
    obtain ⟨ba, be, rfl, iz⟩ := eu
    refine ⟨.one (.c (.slice ba x100.length be)), rfl, fun jo (gg : Kn 167 (K9e1 f g which l) ((tS 100 ba x100.length be) :: (tS 99 p k.length q) :: (tI 20 x95.2) :: (tS 19 d x95.1.length e) :: (tI 18 x88.2) :: (tS 17 m x88.1.length o) :: (K9m7 x80 a b p k q x49 x42 a_l l c_l)) jo) => hK _ _ ?_⟩
    refine Rk 2 1 [(tI 101 x42), (tS 100 ba x100.length be), (tI 20 x95.2), (tS 19 d x95.1.length e), (tI 18 x88.2), (tS 17 m x88.1.length o), (tI 16 x80.2), (tS 15 a x80.1.length b), (tS 14 p k.length q), (tI 13 x49.bus), (tS 0 a_l l.length c_l)] gg cz fun ll gh => ?_
    obtain ⟨x102, ex102, H⟩ := bnd H
    refine wl fun K hK => ?_
    refine wc [.c (.slice ba x100.length be), .c (.int .i64 x42)] gh cz (pit_FitL_ok n cz.has x100 iz x42 ex102) fun mn km m8 ev a1 cg => ?_
    replace hr_l := hr_l.mono (Heap.le_trans (Heap.le_trans (Heap.le_trans bp bq) a0) a1)
    obtain ⟨_, _, rfl, ⟨x, y, rfl, bu⟩, rfl⟩ := ev
    refine ⟨.tup [.c (.slice x x102.1.length y), .c (.int .i64 x102.2)], rfl, fun jp (gi : Kn 167 (K9e1 f g which l) [(102, .tup [.c (.slice x x102.1.length y), .c (.int .i64 x102.2)]), (tI 101 x42), (tS 100 ba x100.length be), (tI 20 x95.2), (tS 19 d x95.1.length e), (tI 18 x88.2), (tS 17 m x88.1.length o), (tI 16 x80.2), (tS 15 a x80.1.length b), (tS 14 p k.length q), (tI 13 x49.bus), (tS 0 a_l l.length c_l)] jp) => hK _ _ ?_⟩
    refine Rk 4 5 [(tI 22 x102.2), (tS 21 x x102.1.length y), (tI 20 x95.2), (tS 19 d x95.1.length e), (tI 18 x88.2), (tS 17 m x88.1.length o), (tI 16 x80.2), (tS 15 a x80.1.length b), (tS 14 p k.length q), (tI 13 x49.bus), (tS 0 a_l l.length c_l)] gi cg fun lm gj => ?_
    refine wf (wp_seq (wp_region_from (Rk 0 1 [(tS 106 a_l l.length c_l), (tI 22 x102.2), (tS 21 x x102.1.length y), (tI 20 x95.2), (tS 19 d x95.1.length e), (tI 18 x88.2), (tS 17 m x88.1.length o), (tI 16 x80.2), (tS 15 a x80.1.length b), (tS 14 p k.length q), (tI 13 x49.bus)] gj cg fun ln gk => ?_)))
    obtain ⟨x107, ex107, H⟩ := bnd H
    refine wl fun K hK => ?_
    refine wc [.c (.slice a_l l.length c_l)] gk cg (law_Cards_ok n cg.has l hr_l ex107) fun mp kn m9 ew a2 d3 => ?_
    obtain ⟨bz, b3, rfl, i0⟩ := ew
    refine ⟨.one (.c (.slice bz x107.length b3)), rfl, fun jq (gl : Kn 167 (K9e1 f g which l) [(tS 107 bz x107.length b3), (tS 106 a_l l.length c_l), (tI 22 x102.2), (tS 21 x x102.1.length y), (tI 20 x95.2), (tS 19 d x95.1.length e), (tI 18 x88.2), (tS 17 m x88.1.length o), (tI 16 x80.2), (tS 15 a x80.1.length b), (tS 14 p k.length q), (tI 13 x49.bus)] jq) => hK _ _ ?_⟩
    obtain ⟨x108, ex108, H⟩ := bnd H
    refine wl fun K hK => ?_
    refine wc [.c (.slice bz x107.length b3)] gl d3 (pit_Void_ok n d3.has x107 i0 ex108) fun mq kq na ex a3 ch => ?_
    replace ad := ad.mono (Heap.le_trans (Heap.le_trans (Heap.le_trans a0 a1) a2) a3)
    obtain ⟨_, _, rfl, ⟨s, u, rfl, ax⟩, rfl⟩ := ex
    refine ⟨.tup [.c (.slice s x108.1.length u), .c (.int .i64 x108.2)], rfl, fun jr (gm : Kn 167 (K9e1 f g which l) [(108, .tup [.c (.slice s x108.1.length u), .c (.int .i64 x108.2)]), (tS 107 bz x107.length b3), (tS 106 a_l l.length c_l), (tI 22 x102.2), (tS 21 x x102.1.length y), (tI 20 x95.2), (tS 19 d x95.1.length e), (tI 18 x88.2), (tS 17 m x88.1.length o), (tI 16 x80.2), (tS 15 a x80.1.length b), (tS 14 p k.length q), (tI 13 x49.bus)] jr) => hK _ _ ?_⟩
    refine Rk 3 5 [(tI 24 x108.2), (tS 23 s x108.1.length u), (tI 22 x102.2), (tS 21 x x102.1.length y), (tI 20 x95.2), (tS 19 d x95.1.length e), (tI 18 x88.2), (tS 17 m x88.1.length o), (tI 16 x80.2), (tS 15 a x80.1.length b), (tS 14 p k.length q), (tI 13 x49.bus)] gm ch fun lo gn => ?_
    refine wf (wp_seq (wp_region_from (Rk 0 1 ((tS 112 p k.length q) :: (tI 24 x108.2) :: (tS 23 s x108.1.length u) :: (tI 22 x102.2) :: (tS 21 x x102.1.length y) :: (tI 20 x95.2) :: (tS 19 d x95.1.length e) :: (tI 18 x88.2) :: (tS 17 m x88.1.length o) :: (tI 16 x80.2) :: (K9m5 a x80 b x49)) gn ch fun lp go => ?_)))
    obtain ⟨x113, ex113, H⟩ := bnd H
    refine wl fun K hK => ?_
    refine wc [.c (.slice p k.length q)] go ch (law_Cards_ok n ch.has k ad ex113) fun mr kr nc ey av d4 => ?_
    obtain ⟨b0, b4, rfl, i1⟩ := ey
    refine ⟨.one (.c (.slice b0 x113.length b4)), rfl, fun js (gp : Kn 167 (K9e1 f g which l) ((tS 113 b0 x113.length b4) :: (tS 112 p k.length q) :: (tI 24 x108.2) :: (tS 23 s x108.1.length u) :: (tI 22 x102.2) :: (tS 21 x x102.1.length y) :: (tI 20 x95.2) :: (tS 19 d x95.1.length e) :: (tI 18 x88.2) :: (tS 17 m x88.1.length o) :: (tI 16 x80.2) :: (K9m5 a x80 b x49)) js) => hK _ _ ?_⟩
    obtain ⟨x114, ex114, H⟩ := bnd H
    refine wl fun K hK => ?_
    refine wc [.c (.slice b0 x113.length b4)] gp d4 (pit_Void_ok n d4.has x113 i1 ex114) fun ms e7 nd e0 aw ac => ?_
    replace ao := ao.mono (Heap.le_trans (Heap.le_trans (Heap.le_trans (Heap.le_trans (Heap.le_trans (Heap.le_trans (Heap.le_trans (Heap.le_trans (Heap.le_trans (Heap.le_trans ct b9) ca) bp) bq) a0) a1) a2) a3) av) aw)
    replace ad := ad.mono (Heap.le_trans av aw)
    replace c2 := c2.mono (Heap.le_trans (Heap.le_trans (Heap.le_trans (Heap.le_trans (Heap.le_trans (Heap.le_trans (Heap.le_trans bp bq) a0) a1) a2) a3) av) aw)
    replace am := am.mono (Heap.le_trans (Heap.le_trans (Heap.le_trans (Heap.le_trans (Heap.le_trans a0 a1) a2) a3) av) aw)
    replace bu := bu.mono (Heap.le_trans (Heap.le_trans (Heap.le_trans a2 a3) av) aw)
    replace ax := ax.mono (Heap.le_trans av aw)
    replace ah := ah.mono (Heap.le_trans (Heap.le_trans (Heap.le_trans (Heap.le_trans (Heap.le_trans (Heap.le_trans (Heap.le_trans (Heap.le_trans (Heap.le_trans b9 ca) bp) bq) a0) a1) a2) a3) av) aw)
    obtain ⟨_, _, rfl, ⟨z, aa, rfl, bv⟩, rfl⟩ := e0
    refine ⟨.tup [.c (.slice z x114.1.length aa), .c (.int .i64 x114.2)], rfl, fun jt (gq : Kn 167 (K9e1 f g which l) ((114, .tup [.c (.slice z x114.1.length aa), .c (.int .i64 x114.2)]) :: (tS 113 b0 x113.length b4) :: (tS 112 p k.length q) :: (tI 24 x108.2) :: (tS 23 s x108.1.length u) :: (tI 22 x102.2) :: (tS 21 x x102.1.length y) :: (tI 20 x95.2) :: (tS 19 d x95.1.length e) :: (tI 18 x88.2) :: (tS 17 m x88.1.length o) :: (tI 16 x80.2) :: (K9m5 a x80 b x49)) jt) => hK _ _ ?_⟩
    refine Rk 3 5 ((tI 26 x114.2) :: (tS 25 z x114.1.length aa) :: (tI 24 x108.2) :: (tS 23 s x108.1.length u) :: (tI 22 x102.2) :: (tS 21 x x102.1.length y) :: (tI 20 x95.2) :: (tS 19 d x95.1.length e) :: (tI 18 x88.2) :: (tS 17 m x88.1.length o) :: (tI 16 x80.2) :: (K9m5 a x80 b x49)) gq ac fun lq gr => ?_
    refine wf (wp_seq (wp_seq ?_))
    obtain ⟨ea, ab, H⟩ := bnd H
    refine wp_mid' (fun a' w' => ∃ (c8 : Array Value) (ck : Heap), a' = ⟨c8, []⟩ ∧ Kn 167 (K9e1 f g which l) [(tS 19 d x95.1.length e), (tS 15 a x80.1.length b), (tI 13 x49.bus), (tB 156 ea)] c8 ∧ Mem ⟨w, h, noX⟩ ck (K9e1 f g which l) [⟨(K9c2 x49), none⟩] [⟨p, k.length, q, 24, 6, ay, (ay : List Value).length⟩] w' ∧ Heap.le e7 ck) ?_ ?_
    ·
     refine wp_region_from (Rk 0 3 ((tB 119 (x80.2 != 0)) :: (tI 26 x114.2) :: (tS 25 z x114.1.length aa) :: (tI 24 x108.2) :: (tS 23 s x108.1.length u) :: (tI 22 x102.2) :: (tS 21 x x102.1.length y) :: (tI 20 x95.2) :: (tS 19 d x95.1.length e) :: (tI 18 x88.2) :: (tS 17 m x88.1.length o) :: (K9m5 a x80 b x49)) gr ac fun ec dg => ?_)
     rcases Bool.eq_false_or_eq_true ((x80.2 != 0)) with bg | bg
     ·
      rw [bg, cond_true] at ab
      have gs : Kn 167 (K9e1 f g which l) ((tB 119 true) :: (tI 26 x114.2) :: (tS 25 z x114.1.length aa) :: (tI 24 x108.2) :: (tS 23 s x108.1.length u) :: (tI 22 x102.2) :: (tS 21 x x102.1.length y) :: (tI 20 x95.2) :: (tS 19 d x95.1.length e) :: (tI 18 x88.2) :: (tS 17 m x88.1.length o) :: (K9m5 a x80 b x49)) ec := (dg.setB 119 true (by rfl) bg).kp
      refine Rk 3 37 ((tB 156 true) :: (tS 19 d x95.1.length e) :: (K9m5 a x80 b x49)) gs ac fun lr gu => ?_
      refine wf ?_
      obtain rfl := Option.some.inj ab
      exact Exists.intro _ ⟨_, rfl, gu.kp, ac, (Heap.le_refl _)⟩
     ·
      rw [bg, cond_false] at ab
      have gv : Kn 167 (K9e1 f g which l) ((tB 119 false) :: (tI 26 x114.2) :: (tS 25 z x114.1.length aa) :: (tI 24 x108.2) :: (tS 23 s x108.1.length u) :: (tI 22 x102.2) :: (tS 21 x x102.1.length y) :: (tI 20 x95.2) :: (tS 19 d x95.1.length e) :: (tI 18 x88.2) :: (tS 17 m x88.1.length o) :: (K9m5 a x80 b x49)) ec := (dg.setB 119 false (by rfl) bg).kp
      refine Rk 3 4 ((tB 123 (x88.2 != 0)) :: (tI 26 x114.2) :: (tS 25 z x114.1.length aa) :: (tI 24 x108.2) :: (tS 23 s x108.1.length u) :: (tI 22 x102.2) :: (tS 21 x x102.1.length y) :: (tI 20 x95.2) :: (tS 19 d x95.1.length e) :: (tS 17 m x88.1.length o) :: (K9m5 a x80 b x49)) gv ac fun ed dh => ?_
      rcases Bool.eq_false_or_eq_true ((x88.2 != 0)) with bh | bh
      ·
       rw [bh, cond_true] at ab
       have gw : Kn 167 (K9e1 f g which l) ((tB 123 true) :: (tI 26 x114.2) :: (tS 25 z x114.1.length aa) :: (tI 24 x108.2) :: (tS 23 s x108.1.length u) :: (tI 22 x102.2) :: (tS 21 x x102.1.length y) :: (tI 20 x95.2) :: (tS 19 d x95.1.length e) :: (tS 17 m x88.1.length o) :: (K9m5 a x80 b x49)) ed := (dh.setB 123 true (by rfl) bh).kp
       refine Rk 7 33 ((tB 156 true) :: (tS 19 d x95.1.length e) :: (K9m5 a x80 b x49)) gw ac fun ls gx => ?_
       refine wf ?_
       obtain rfl := Option.some.inj ab
       exact Exists.intro _ ⟨_, rfl, gx.kp, ac, (Heap.le_refl _)⟩
      ·
       rw [bh, cond_false] at ab
       have gy : Kn 167 (K9e1 f g which l) ((tB 123 false) :: (tI 26 x114.2) :: (tS 25 z x114.1.length aa) :: (tI 24 x108.2) :: (tS 23 s x108.1.length u) :: (tI 22 x102.2) :: (tS 21 x x102.1.length y) :: (tI 20 x95.2) :: (tS 19 d x95.1.length e) :: (tS 17 m x88.1.length o) :: (K9m5 a x80 b x49)) ed := (dh.setB 123 false (by rfl) bh).kp
       refine Rk 7 4 ((tB 127 (x95.2 != 0)) :: (tI 26 x114.2) :: (tS 25 z x114.1.length aa) :: (tI 24 x108.2) :: (tS 23 s x108.1.length u) :: (tI 22 x102.2) :: (tS 21 x x102.1.length y) :: (tS 19 d x95.1.length e) :: (tS 17 m x88.1.length o) :: (K9m5 a x80 b x49)) gy ac fun ee di => ?_
       rcases Bool.eq_false_or_eq_true ((x95.2 != 0)) with bi | bi
       ·
        rw [bi, cond_true] at ab
        have g0 : Kn 167 (K9e1 f g which l) ((tB 127 true) :: (tI 26 x114.2) :: (tS 25 z x114.1.length aa) :: (tI 24 x108.2) :: (tS 23 s x108.1.length u) :: (tI 22 x102.2) :: (tS 21 x x102.1.length y) :: (tS 19 d x95.1.length e) :: (tS 17 m x88.1.length o) :: (K9m5 a x80 b x49)) ee := (di.setB 127 true (by rfl) bi).kp
        refine Rk 11 29 ((tB 156 true) :: (tS 19 d x95.1.length e) :: (K9m5 a x80 b x49)) g0 ac fun lu g1 => ?_
        refine wf ?_
        obtain rfl := Option.some.inj ab
        exact Exists.intro _ ⟨_, rfl, g1.kp, ac, (Heap.le_refl _)⟩
       ·
        rw [bi, cond_false] at ab
        have g2 : Kn 167 (K9e1 f g which l) ((tB 127 false) :: (tI 26 x114.2) :: (tS 25 z x114.1.length aa) :: (tI 24 x108.2) :: (tS 23 s x108.1.length u) :: (tI 22 x102.2) :: (tS 21 x x102.1.length y) :: (tS 19 d x95.1.length e) :: (tS 17 m x88.1.length o) :: (K9m5 a x80 b x49)) ee := (di.setB 127 false (by rfl) bi).kp
        refine Rk 11 4 ((tB 131 (x102.2 != 0)) :: (tI 26 x114.2) :: (tS 25 z x114.1.length aa) :: (tI 24 x108.2) :: (K9m9 s x108 u x x102 y d x95 e m x88 o a x80 b x49)) g2 ac fun ef dj => ?_
        rcases Bool.eq_false_or_eq_true ((x102.2 != 0)) with bj | bj
        ·
         rw [bj, cond_true] at ab
         have g3 : Kn 167 (K9e1 f g which l) ((tB 131 true) :: (tI 26 x114.2) :: (tS 25 z x114.1.length aa) :: (tI 24 x108.2) :: (K9m9 s x108 u x x102 y d x95 e m x88 o a x80 b x49)) ef := (dj.setB 131 true (by rfl) bj).kp
         refine Rk 15 25 ((tB 156 true) :: (tS 19 d x95.1.length e) :: (K9m5 a x80 b x49)) g3 ac fun lv g4 => ?_
         refine wf ?_
         obtain rfl := Option.some.inj ab
         exact Exists.intro _ ⟨_, rfl, g4.kp, ac, (Heap.le_refl _)⟩
        ·
         rw [bj, cond_false] at ab
         have g5 : Kn 167 (K9e1 f g which l) ((tB 131 false) :: (tI 26 x114.2) :: (tS 25 z x114.1.length aa) :: (tI 24 x108.2) :: (K9m9 s x108 u x x102 y d x95 e m x88 o a x80 b x49)) ef := (dj.setB 131 false (by rfl) bj).kp
         refine Rk 15 4 ((tB 135 (x108.2 != 0)) :: (tI 26 x114.2) :: (tS 25 z x114.1.length aa) :: (K9m9 s x108 u x x102 y d x95 e m x88 o a x80 b x49)) g5 ac fun eg dk => ?_
         rcases Bool.eq_false_or_eq_true ((x108.2 != 0)) with bk | bk
         ·
          rw [bk, cond_true] at ab
          have g6 : Kn 167 (K9e1 f g which l) ((tB 135 true) :: (tI 26 x114.2) :: (tS 25 z x114.1.length aa) :: (K9m9 s x108 u x x102 y d x95 e m x88 o a x80 b x49)) eg := (dk.setB 135 true (by rfl) bk).kp
          refine Rk 19 21 ((tB 156 true) :: (tS 19 d x95.1.length e) :: (K9m5 a x80 b x49)) g6 ac fun lx g7 => ?_
          refine wf ?_
          obtain rfl := Option.some.inj ab
          exact Exists.intro _ ⟨_, rfl, g7.kp, ac, (Heap.le_refl _)⟩
         ·
          rw [bk, cond_false] at ab
          have g8 : Kn 167 (K9e1 f g which l) ((tB 135 false) :: (tI 26 x114.2) :: (tS 25 z x114.1.length aa) :: (K9m9 s x108 u x x102 y d x95 e m x88 o a x80 b x49)) eg := (dk.setB 135 false (by rfl) bk).kp
          refine Rk 19 4 ((tB 139 (x114.2 != 0)) :: (tS 25 z x114.1.length aa) :: (K9m9 s x108 u x x102 y d x95 e m x88 o a x80 b x49)) g8 ac fun eh dl => ?_
          rcases Bool.eq_false_or_eq_true ((x114.2 != 0)) with bl | bl
          ·
           rw [bl, cond_true] at ab
           have ha : Kn 167 (K9e1 f g which l) ((tB 139 true) :: (tS 25 z x114.1.length aa) :: (K9m9 s x108 u x x102 y d x95 e m x88 o a x80 b x49)) eh := (dl.setB 139 true (by rfl) bl).kp
           refine Rk 23 17 ((tB 156 true) :: (tS 19 d x95.1.length e) :: (K9m5 a x80 b x49)) ha ac fun ly hb => ?_
           refine wf ?_
           obtain rfl := Option.some.inj ab
           exact Exists.intro _ ⟨_, rfl, hb.kp, ac, (Heap.le_refl _)⟩
          ·
           rw [bl, cond_false] at ab
           have hc : Kn 167 (K9e1 f g which l) ((tB 139 false) :: (tS 25 z x114.1.length aa) :: (K9m9 s x108 u x x102 y d x95 e m x88 o a x80 b x49)) eh := (dl.setB 139 false (by rfl) bl).kp
           refine Rk 23 2 ((tS 141 m x88.1.length o) :: (tS 140 a x80.1.length b) :: (tB 139 false) :: (tS 25 z x114.1.length aa) :: (tS 23 s x108.1.length u) :: (tS 21 x x102.1.length y) :: (tS 19 d x95.1.length e) :: (K9m5 a x80 b x49)) hc ac fun lz dm => ?_
           obtain ⟨x142, ex142, ab⟩ := bnd ab
           refine wpFrom_loud _ rfl (wantedS_sound dm (by kernel_rfl)) fun K hK => ?_
           refine wc [.c (.slice a x80.1.length b), .c (.slice m x88.1.length o)] dm ac (law_ints_ok n ac.has x80.1 ao x88.1 c2 ex142) fun mt ks nf e1 ak a5 => ?_
           replace ao := ao.mono ak
           replace ad := ad.mono ak
           replace am := am.mono ak
           replace bu := bu.mono ak
           replace ax := ax.mono ak
           replace bv := bv.mono ak
           replace ah := ah.mono ak
           obtain rfl := e1
           refine ⟨.one (.c (.bool x142)), rfl, fun jv (hd : Kn 167 (K9e1 f g which l) ((tB 142 x142) :: (tS 141 m x88.1.length o) :: (tS 140 a x80.1.length b) :: (tB 139 false) :: (tS 25 z x114.1.length aa) :: (tS 23 s x108.1.length u) :: (tS 21 x x102.1.length y) :: (tS 19 d x95.1.length e) :: (K9m5 a x80 b x49)) jv) => hK _ _ ?_⟩
           refine Rk 26 3 ((tB 145 (!x142)) :: (tS 25 z x114.1.length aa) :: (tS 23 s x108.1.length u) :: (tS 21 x x102.1.length y) :: (tS 19 d x95.1.length e) :: (K9m5 a x80 b x49)) hd a5 fun ei dp => ?_
           rcases Bool.eq_false_or_eq_true ((!x142)) with bm | bm
           ·
            rw [bm, cond_true] at ab
            have he : Kn 167 (K9e1 f g which l) ((tB 145 true) :: (tS 25 z x114.1.length aa) :: (tS 23 s x108.1.length u) :: (tS 21 x x102.1.length y) :: (tS 19 d x95.1.length e) :: (K9m5 a x80 b x49)) ei := (dp.setB 145 true (by rfl) bm).kp
            refine Rk 29 11 ((tB 156 true) :: (tS 19 d x95.1.length e) :: (K9m5 a x80 b x49)) he a5 fun l1 hg => ?_
            refine wf ?_
            obtain rfl := Option.some.inj ab
            exact Exists.intro _ ⟨_, rfl, hg.kp, a5, ak⟩
           ·
            rw [bm, cond_false] at ab
            have hi : Kn 167 (K9e1 f g which l) ((tB 145 false) :: (tS 25 z x114.1.length aa) :: (tS 23 s x108.1.length u) :: (tS 21 x x102.1.length y) :: (tS 19 d x95.1.length e) :: (K9m5 a x80 b x49)) ei := (dp.setB 145 false (by rfl) bm).kp
            refine Rk 29 2 ((tS 147 x x102.1.length y) :: (tS 146 d x95.1.length e) :: (tB 145 false) :: (tS 25 z x114.1.length aa) :: (tS 23 s x108.1.length u) :: (tS 19 d x95.1.length e) :: (K9m5 a x80 b x49)) hi a5 fun l2 dq => ?_
            obtain ⟨x148, ex148, ab⟩ := bnd ab
            refine wpFrom_loud _ rfl (wantedS_sound dq (by kernel_rfl)) fun K hK => ?_
            refine wc [.c (.slice d x95.1.length e), .c (.slice x x102.1.length y)] dq a5 (law_ints_ok n a5.has x95.1 am x102.1 bu ex148) fun mu kt ng e2 ar a6 => ?_
            replace ao := ao.mono ar
            replace ad := ad.mono ar
            replace am := am.mono ar
            replace ax := ax.mono ar
            replace bv := bv.mono ar
            replace ah := ah.mono ar
            obtain rfl := e2
            refine ⟨.one (.c (.bool x148)), rfl, fun jx (hl : Kn 167 (K9e1 f g which l) ((tB 148 x148) :: (tS 147 x x102.1.length y) :: (tS 146 d x95.1.length e) :: (tB 145 false) :: (tS 25 z x114.1.length aa) :: (tS 23 s x108.1.length u) :: (tS 19 d x95.1.length e) :: (K9m5 a x80 b x49)) jx) => hK _ _ ?_⟩
            refine Rk 32 3 ((tB 151 (!x148)) :: (tS 25 z x114.1.length aa) :: (tS 23 s x108.1.length u) :: (tS 19 d x95.1.length e) :: (K9m5 a x80 b x49)) hl a6 fun ej dr => ?_
            rcases Bool.eq_false_or_eq_true ((!x148)) with bn | bn
            ·
             rw [bn, cond_true] at ab
             have hn : Kn 167 (K9e1 f g which l) ((tB 151 true) :: (tS 25 z x114.1.length aa) :: (tS 23 s x108.1.length u) :: (tS 19 d x95.1.length e) :: (K9m5 a x80 b x49)) ej := (dr.setB 151 true (by rfl) bn).kp
             refine Rk 35 5 ((tB 156 true) :: (tS 19 d x95.1.length e) :: (K9m5 a x80 b x49)) hn a6 fun l3 ho => ?_
             refine wf ?_
             obtain rfl := Option.some.inj ab
             exact Exists.intro _ ⟨_, rfl, ho.kp, a6, (Heap.le_trans ak ar)⟩
            ·
             rw [bn, cond_false] at ab
             have hp : Kn 167 (K9e1 f g which l) ((tB 151 false) :: (tS 25 z x114.1.length aa) :: (tS 23 s x108.1.length u) :: (tS 19 d x95.1.length e) :: (K9m5 a x80 b x49)) ej := (dr.setB 151 false (by rfl) bn).kp
             refine Rk 35 2 ((tS 153 z x114.1.length aa) :: (tS 152 s x108.1.length u) :: (tB 151 false) :: (tS 19 d x95.1.length e) :: (K9m5 a x80 b x49)) hp a6 fun l4 ds => ?_
             obtain ⟨x154, ex154, ab⟩ := bnd ab
             refine wpFrom_loud _ rfl (wantedS_sound ds (by kernel_rfl)) fun K hK => ?_
             refine wc [.c (.slice s x108.1.length u), .c (.slice z x114.1.length aa)] ds a6 (law_ints_ok n a6.has x108.1 ax x114.1 bv ex154) fun mv ku nh e3 ii d6 => ?_
             obtain rfl := e3
             refine ⟨.one (.c (.bool x154)), rfl, fun jy (hr : Kn 167 (K9e1 f g which l) ((tB 154 x154) :: (tS 153 z x114.1.length aa) :: (tS 152 s x108.1.length u) :: (tB 151 false) :: (tS 19 d x95.1.length e) :: (K9m5 a x80 b x49)) jy) => hK _ _ ?_⟩
             refine Rk 38 2 ((tB 156 (!x154)) :: (tS 19 d x95.1.length e) :: (K9m5 a x80 b x49)) hr d6 fun l5 hs => ?_
             refine wf ?_
             obtain rfl := Option.some.inj ab
             exact Exists.intro _ ⟨_, rfl, hs.kp, d6, (Heap.le_trans ak (Heap.le_trans ar ii))⟩
    ·
     rintro _ ni ⟨c8, ck, rfl, cr, bs, cb⟩
     replace ao := ao.mono cb
     replace ad := ad.mono cb
     replace am := am.mono cb
     replace ah := ah.mono cb
     refine wC (ea) cr (fun cn => ?_) (fun cn => ?_)
     ·
      rw [cn, cond_true] at H
      refine wp_seq (wp_region_from (Rk 0 1 [(tB 10 false)] cr bs fun l7 ht => ?_))
      refine wf (wp_ret ?_)
      obtain rfl := Option.some.inj H
      exact rt (.one (.c (.bool false))) ht bs rfl
     ·
      rw [cn, cond_false] at H
      refine wp_skip (wp_seq (wp_region_from (Rk 0 2 [(tI 158 x49.bus), (tS 157 d x95.1.length e), (tS 15 a x80.1.length b)] cr bs fun l8 hu => ?_)))
      obtain ⟨x159, ex159, H⟩ := bnd H
      refine wl fun K hK => ?_
      refine wc [.c (.slice d x95.1.length e), .c (.int .i64 x49.bus)] hu bs (ref_Has_ok n bs.has x95.1 am x49.bus ex159) fun mw kv nj e4 dz bt => ?_
      replace ad := ad.mono dz
      replace ah := ah.mono dz
      obtain rfl := e4
      refine ⟨.one (.c (.bool x159)), rfl, fun jz (hw : Kn 167 (K9e1 f g which l) [(tB 159 x159), (tI 158 x49.bus), (tS 157 d x95.1.length e), (tS 15 a x80.1.length b)] jz) => hK _ _ ?_⟩
      refine Rk 3 5 [(tB 164 (x159 == (((x80.1.length : Nat) : Int) == 0)))] hw bt fun ek dt => ?_
      rcases Bool.eq_false_or_eq_true ((x159 == (((x80.1.length : Nat) : Int) == 0))) with bo | bo
      ·
       rw [bo, cond_true] at H
       have du : Kn 167 (K9e1 f g which l) [(tB 164 true)] ek := (dt.setB 164 true (by rfl) bo).kp
       obtain ⟨x165, ex165, H⟩ := bnd H
       refine wpFrom_loud _ rfl (wantedS_sound du (by kernel_rfl)) fun K hK => ?_
       refine wc [] du bt (law_wakes_ok n bt.has  ex165) fun mx kw nk e5 k0 d7 => ?_
       obtain rfl := e5
       refine ⟨.one (.c (.bool x165)), rfl, fun j1 (hx : Kn 167 (K9e1 f g which l) [(tB 165 x165), (tB 164 true)] j1) => hK _ _ ?_⟩
       refine Rk 9 2 [(tB 10 x165)] hx d7 fun l9 hz => ?_
       refine wf (wp_ret ?_)
       obtain rfl := Option.some.inj H
       exact rt (.one (.c (.bool x165))) hz d7 rfl
      ·
       rw [bo, cond_false] at H
       have h0 : Kn 167 (K9e1 f g which l) [(tB 164 false)] ek := (dt.setB 164 false (by rfl) bo).kp
       refine Rk 8 3 [(tB 10 false)] h0 bt fun ma h1 => ?_
       refine wf (wp_ret ?_)
       obtain rfl := Option.some.inj H
       exact rt (.one (.c (.bool false))) h1 bt rfl
end Go.Proofs.Ytkbphdjemgibnaa
