/- Each call computes its plain function. -/
import Derived.Test.YtkbphdjemgibnaaProg
import Derived.Test.YtkbphdjemgibnaaSgP0
import Derived.Test.YtkbphdjemgibnaaSgWA
import Derived.Test.YtkbphdjemgibnaaSgWR
import Derived.Test.YtkbphdjemgibnaaSgWS
import Derived.Test.YtkbphdjemgibnaaSgWW
set_option linter.all false
namespace Go.Proofs.Ytkbphdjemgibnaa
open Go Go.RowKit
open Rep (rep)
open KRep (kv)
open VRep (rv)
abbrev K10c1 (x59 : Card) (x63 ae x191 : Int) : List SC := [.int .i64 x59.bus, .int .i64 x63, .int .i64 ae, .int .u8 2, .int .i64 0, .int .i64 x191]
abbrev K10e2 (d e : Nat) (which : IK .u8) (l : List Card) : Env := [(d, e + (Int.tmod (IntKind.i64.wrap which.n) ((l.length : Nat) : Int) : Int).toNat * 6)]
abbrev K10c3 (x59 : Card) : List SC := [.int .i64 x59.bus, .int .i64 x59.number, .int .i64 x59.minute, .int .u8 x59.kind.n, .int .i64 x59.part, .int .i64 x59.sg]
abbrev K10c4 (x93 : Card) : List SC := [.int .i64 x93.bus, .int .i64 x93.number, .int .i64 x93.minute, .int .u8 x93.kind.n, .int .i64 x93.part, .int .i64 x93.sg]
abbrev K10c5 (x101 : Card) : List SC := [.int .i64 x101.bus, .int .i64 x101.number, .int .i64 x101.minute, .int .u8 x101.kind.n, .int .i64 x101.part, .int .i64 x101.sg]
abbrev K10c6 (x154 : Card) : List SC := [.int .i64 x154.bus, .int .i64 x154.number, .int .i64 x154.minute, .int .u8 x154.kind.n, .int .i64 x154.part, .int .i64 x154.sg]
abbrev K10c7 (x201 : Card) : List SC := [.int .i64 x201.bus, .int .i64 x201.number, .int .i64 x201.minute, .int .u8 x201.kind.n, .int .i64 x201.part, .int .i64 x201.sg]
abbrev K10c8 (x209 : Card) : List SC := [.int .i64 x209.bus, .int .i64 x209.number, .int .i64 x209.minute, .int .u8 x209.kind.n, .int .i64 x209.part, .int .i64 x209.sg]
abbrev K10e9 (d e : Nat) (which : IK .u8) (l : List Card) (ao aq : Nat) (x_v20 : Int) (ax : Nat) : Env := [(d, e + (Int.tmod (IntKind.i64.wrap which.n) ((l.length : Nat) : Int) : Int).toNat * 6), (ao, aq + (x_v20 : Int).toNat * 6), (ax, 0)]
abbrev K10c10 (x59 : Card) (x63 x52 : Int) (before : IK .u32) : List SC := [.int .i64 x59.bus, .int .i64 x63, .int .i64 (IntKind.i64.wrap (x52 - (Int.tmod (IntKind.i64.wrap before.n) (IntKind.i64.wrap (x52 + 1))))), .int .u8 3, .int .i64 0, .int .i64 0]
abbrev K10e11 (d e : Nat) (which : IK .u8) (l : List Card) (a7 a9 : Nat) (x_v11 : Int) (bk bq : Nat) : Env := [(d, e + (Int.tmod (IntKind.i64.wrap which.n) ((l.length : Nat) : Int) : Int).toNat * 6), (a7, a9 + (x_v11 : Int).toNat * 6), (bk, bq + (x_v11 : Int).toNat * 6)]
abbrev K10e12 (d e : Nat) (which : IK .u8) (l : List Card) (g m : Nat) (one : IK .u8) (x69 : (List Int) × Int) : Env := [(d, e + (Int.tmod (IntKind.i64.wrap which.n) ((l.length : Nat) : Int) : Int).toNat * 6), (g, m + (Int.tmod (IntKind.i64.wrap one.n) ((x69.1.length : Nat) : Int) : Int).toNat * 1)]
abbrev K10e13 (d e : Nat) (which : IK .u8) (l : List Card) (g m : Nat) (one : IK .u8) (x69 : (List Int) × Int) (cj de : Nat) (x_v40 : Int) : Env := [(d, e + (Int.tmod (IntKind.i64.wrap which.n) ((l.length : Nat) : Int) : Int).toNat * 6), (g, m + (Int.tmod (IntKind.i64.wrap one.n) ((x69.1.length : Nat) : Int) : Int).toNat * 1), (cj, de + (x_v40 : Int).toNat * 1)]
abbrev K10p14 (x59 : Card) (x191 : Int) : List Plc := [⟨(K10c3 x59), none⟩, ⟨[.int .i64 x191], none⟩]
abbrev K10r15 (o : Option Addr) (k : List Card) (p : Nat) (f : List Value) (ac : Option Addr) (x137 : List Card) (ad : Nat) (q : List Value) (x59 : Card) (x63 x52 : Int) (before : IK .u32) (ab : Option Addr) : List Row := [⟨o, k.length, p, 24, 6, f, (f : List Value).length⟩, ⟨ac, x137.length, ad, 24, 6, ((([] : List Value) ++ q) ++ ([.int .i64 x59.bus, .int .i64 x63, .int .i64 (IntKind.i64.wrap (x52 - (Int.tmod (IntKind.i64.wrap before.n) (IntKind.i64.wrap (x52 + 1))))), .int .u8 3, .int .i64 0, .int .i64 0] : List Value)), (((([] : List Value) ++ q) ++ ([.int .i64 x59.bus, .int .i64 x63, .int .i64 (IntKind.i64.wrap (x52 - (Int.tmod (IntKind.i64.wrap before.n) (IntKind.i64.wrap (x52 + 1))))), .int .u8 3, .int .i64 0, .int .i64 0] : List Value)) : List Value).length⟩, ⟨ab, 1, 1, 24, 6, ([.int .i64 x59.bus, .int .i64 x63, .int .i64 (IntKind.i64.wrap (x52 - (Int.tmod (IntKind.i64.wrap before.n) (IntKind.i64.wrap (x52 + 1))))), .int .u8 3, .int .i64 0, .int .i64 0] : List Value), 0⟩]
abbrev K10r16 (o : Option Addr) (k : List Card) (p : Nat) (f : List Value) (ac : Option Addr) (x137 : List Card) (ad : Nat) (q : List Value) (x59 : Card) (x63 x52 : Int) (before : IK .u32) (ab az : Option Addr) (x223 : List Card) (a0 : Nat) (aw : List Value) (ae x191 : Int) (ay : Option Addr) : List Row := [⟨o, k.length, p, 24, 6, f, (f : List Value).length⟩, ⟨ac, x137.length, ad, 24, 6, ((([] : List Value) ++ q) ++ ([.int .i64 x59.bus, .int .i64 x63, .int .i64 (IntKind.i64.wrap (x52 - (Int.tmod (IntKind.i64.wrap before.n) (IntKind.i64.wrap (x52 + 1))))), .int .u8 3, .int .i64 0, .int .i64 0] : List Value)), (((([] : List Value) ++ q) ++ ([.int .i64 x59.bus, .int .i64 x63, .int .i64 (IntKind.i64.wrap (x52 - (Int.tmod (IntKind.i64.wrap before.n) (IntKind.i64.wrap (x52 + 1))))), .int .u8 3, .int .i64 0, .int .i64 0] : List Value)) : List Value).length⟩, ⟨ab, 1, 1, 24, 6, ([.int .i64 x59.bus, .int .i64 x63, .int .i64 (IntKind.i64.wrap (x52 - (Int.tmod (IntKind.i64.wrap before.n) (IntKind.i64.wrap (x52 + 1))))), .int .u8 3, .int .i64 0, .int .i64 0] : List Value), 0⟩, ⟨az, x223.length, a0, 24, 6, ((([] : List Value) ++ aw) ++ ([.int .i64 x59.bus, .int .i64 x63, .int .i64 ae, .int .u8 2, .int .i64 0, .int .i64 x191] : List Value)), (((([] : List Value) ++ aw) ++ ([.int .i64 x59.bus, .int .i64 x63, .int .i64 ae, .int .u8 2, .int .i64 0, .int .i64 x191] : List Value)) : List Value).length⟩, ⟨ay, 1, 1, 24, 6, ([.int .i64 x59.bus, .int .i64 x63, .int .i64 ae, .int .u8 2, .int .i64 0, .int .i64 x191] : List Value), 0⟩]
abbrev K10m17 (x52 : Int) (before : IK .u32) (a : Option Addr) (x69 : (List Int) × Int) (b : Nat) (x63 : Int) (x59 : Card) (a_l : Option Addr) (l : List Card) (c_l : Nat) (one : IK .u8) : TM := [(tI 22 (IntKind.i64.wrap (x52 - (Int.tmod (IntKind.i64.wrap before.n) (IntKind.i64.wrap (x52 + 1)))))), (tS 14 a x69.1.length b), (tI 13 x63), (tI 12 x59.bus), (tI 11 x52), (tS 0 a_l l.length c_l), (2, .one (.c (.int .u8 one.n)))]
abbrev K10m18 (a : Option Addr) (x69 : (List Int) × Int) (b : Nat) (x63 : Int) (x59 : Card) (x52 : Int) (a_l : Option Addr) (l : List Card) (c_l : Nat) (one : IK .u8) (before : IK .u32) : TM := [(tS 14 a x69.1.length b), (tI 13 x63), (tI 12 x59.bus), (tI 11 x52), (tS 0 a_l l.length c_l), (2, .one (.c (.int .u8 one.n))), (4, .one (.c (.int .u32 before.n)))]
abbrev K10m19 (a_l : Option Addr) (l : List Card) (c_l : Nat) (which one : IK .u8) (minute before : IK .u32) : TM := [(tS 0 a_l l.length c_l), (1, .one (.c (.int .u8 which.n))), (2, .one (.c (.int .u8 one.n))), (3, .one (.c (.int .u32 minute.n))), (4, .one (.c (.int .u32 before.n)))]
abbrev K10m20 (a : Option Addr) (x69 : (List Int) × Int) (b : Nat) (x63 : Int) (x59 : Card) (x52 : Int) (a_l : Option Addr) (l : List Card) (c_l : Nat) : TM := [(tS 14 a x69.1.length b), (tI 13 x63), (tI 12 x59.bus), (tI 11 x52), (tS 0 a_l l.length c_l)]
abbrev K10m21 (a_l : Option Addr) (l : List Card) (c_l : Nat) (one : IK .u8) (before : IK .u32) : TM := [(tS 0 a_l l.length c_l), (2, .one (.c (.int .u8 one.n))), (4, .one (.c (.int .u32 before.n)))]
abbrev K10m22 (x_v20 : Int) (s : Option Addr) (x141 : (List Int) × Int) (u : Nat) (x52 : Int) (before : IK .u32) (a : Option Addr) (x69 : (List Int) × Int) (b : Nat) (x63 : Int) (x59 : Card) (a_l : Option Addr) (l : List Card) (c_l : Nat) (one : IK .u8) : TM := (tI 25 x_v20) :: (tS 23 s x141.1.length u) :: (K10m17 x52 before a x69 b x63 x59 a_l l c_l one)
abbrev K10m23 (y : Option Addr) (x227 : (List Int) × Int) (aa : Nat) (a : Option Addr) (x69 : (List Int) × Int) (b : Nat) : TM := [(tS 29 y x227.1.length aa), (tS 14 a x69.1.length b)]
set_option maxRecDepth 100000 in
set_option maxHeartbeats 4000000 in
theorem law_PitSigned_ok (n : Nat) {h : Heap} {w : World} (hh : Has h w) (l : List Card) {a_l : Option Addr} {c_l : Nat} (hr_l : RepS h a_l c_l l) (which : IK .u8) (one : IK .u8) (minute : IK .u32) (before : IK .u32) {r : Bool} (H : law_PitSigned n l which one minute before = some r) :
  Calls Try.prog 10 #[.slice a_l l.length c_l, .int .u8 which.n, .int .u8 one.n, .int .u32 minute.n, .int .u32 before.n] w (Ret (fun h v => v = .bool r) h w) := by
 refine enter 259 [.c (.slice a_l l.length c_l), .c (.int .u8 which.n), .c (.int .u8 one.n), .c (.int .u32 minute.n), .c (.int .u32 before.n)] Try.func10 rfl rfl rfl rfl fun t hk => ?_
 have hm := Mem.begin h w hh
 unfold law_PitSigned at H
 refine wp_seq (wp_region_from (Rk 0 1 (K10m19 a_l l c_l which one minute before) hk hm fun sy km => ?_))
 refine wf (wp_seq (wp_seq ?_))
 obtain ⟨ft, ar, H⟩ := bnd H
 refine wp_mid' (fun a' w' => ∃ (fy : Array Value) (dp : Heap), a' = ⟨fy, []⟩ ∧ Kn 259 [] [(tS 0 a_l l.length c_l), (1, .one (.c (.int .u8 which.n))), (2, .one (.c (.int .u8 one.n))), (3, .one (.c (.int .u32 minute.n))), (4, .one (.c (.int .u32 before.n))), (tB 49 ft)] fy ∧ Mem ⟨w, h, noX⟩ dp [] [] [] w' ∧ Heap.le h dp) ?_ ?_
 ·
  refine wp_region_from (Rk 0 1 ((tS 32 a_l l.length c_l) :: (K10m19 a_l l c_l which one minute before)) km hm fun ur nm => ?_)
  obtain ⟨x33, ex33, ar⟩ := bnd ar
  refine wl fun K hK => ?_
  refine wc [.c (.slice a_l l.length c_l)] nm hm (law_ready_ok n hm.has l hr_l ex33) fun v3 ss v6 ik c4 a5 => ?_
  replace hr_l := hr_l.mono c4
  obtain rfl := ik
  refine ⟨.one (.c (.bool x33)), rfl, fun qd (ka : Kn 259 [] ((tB 33 x33) :: (tS 32 a_l l.length c_l) :: (K10m19 a_l l c_l which one minute before)) qd) => hK _ _ ?_⟩
  refine Rk 2 2 ((tB 35 (!x33)) :: (K10m19 a_l l c_l which one minute before)) ka a5 fun h4 gn => ?_
  rcases Bool.eq_false_or_eq_true ((!x33)) with cu | cu
  ·
   rw [cu, cond_true] at ar
   have kk : Kn 259 [] ((tB 35 true) :: (K10m19 a_l l c_l which one minute before)) h4 := (gn.setB 35 true (by rfl) cu).kp
   refine Rk 4 14 ((tB 49 true) :: (K10m19 a_l l c_l which one minute before)) kk a5 fun s9 ko => ?_
   refine wf ?_
   obtain rfl := Option.some.inj ar
   exact Exists.intro _ ⟨_, rfl, ko.kp, a5, c4⟩
  ·
   rw [cu, cond_false] at ar
   have ks : Kn 259 [] ((tB 35 false) :: (K10m19 a_l l c_l which one minute before)) h4 := (gn.setB 35 false (by rfl) cu).kp
   refine Rk 4 5 ((tB 40 (((l.length : Nat) : Int) == 0)) :: (K10m19 a_l l c_l which one minute before)) ks a5 fun h5 gp => ?_
   rcases Bool.eq_false_or_eq_true ((((l.length : Nat) : Int) == 0)) with cv | cv
   ·
    rw [cv, cond_true] at ar
    have ky : Kn 259 [] ((tB 40 true) :: (K10m19 a_l l c_l which one minute before)) h5 := (gp.setB 40 true (by rfl) cv).kp
    refine Rk 9 9 ((tB 49 true) :: (K10m19 a_l l c_l which one minute before)) ky a5 fun tj k5 => ?_
    refine wf ?_
    obtain rfl := Option.some.inj ar
    exact Exists.intro _ ⟨_, rfl, k5.kp, a5, c4⟩
   ·
    rw [cv, cond_false] at ar
    have k6 : Kn 259 [] ((tB 40 false) :: (K10m19 a_l l c_l which one minute before)) h5 := (gp.setB 40 false (by rfl) cv).kp
    refine Rk 9 5 ((tB 45 (decide (((l.length : Nat) : Int) > 39))) :: (K10m19 a_l l c_l which one minute before)) k6 a5 fun h6 gq => ?_
    rcases Bool.eq_false_or_eq_true (decide (((l.length : Nat) : Int) > 39)) with cx | cx
    ·
     rw [cx, cond_true] at ar
     have lh : Kn 259 [] ((tB 45 true) :: (K10m19 a_l l c_l which one minute before)) h6 := (gq.setB 45 true (by rfl) cx).kp
     refine Rk 14 4 ((tB 49 true) :: (K10m19 a_l l c_l which one minute before)) lh a5 fun tt ln => ?_
     refine wf ?_
     obtain rfl := Option.some.inj ar
     exact Exists.intro _ ⟨_, rfl, ln.kp, a5, c4⟩
    ·
     rw [cx, cond_false] at ar
     have lp : Kn 259 [] ((tB 45 false) :: (K10m19 a_l l c_l which one minute before)) h6 := (gq.setB 45 false (by rfl) cx).kp
     refine Rk 14 1 ((tS 46 a_l l.length c_l) :: (tB 45 false) :: (K10m19 a_l l c_l which one minute before)) lp a5 fun tx gu => ?_
     obtain ⟨x47, ex47, ar⟩ := bnd ar
     refine wpFrom_loud _ rfl (wantedS_sound gu (by kernel_rfl)) fun K hK => ?_
     refine wc [.c (.slice a_l l.length c_l)] gu a5 (law_fresh_ok n a5.has l hr_l ex47) fun vr sh wk ix om hg => ?_
     obtain rfl := ix
     refine ⟨.one (.c (.int .i64 x47)), rfl, fun qu (l5 : Kn 259 [] ((tI 47 x47) :: (tS 46 a_l l.length c_l) :: (tB 45 false) :: (K10m19 a_l l c_l which one minute before)) qu) => hK _ _ ?_⟩
     refine Rk 16 2 ((tB 49 (x47 == 0)) :: (K10m19 a_l l c_l which one minute before)) l5 hg fun t7 mb => ?_
     refine wf ?_
     obtain rfl := Option.some.inj ar
     exact Exists.intro _ ⟨_, rfl, mb.kp, hg, (Heap.le_trans c4 om)⟩
 ·
  rintro _ rv ⟨fy, dp, rfl, e0, bo, oo⟩
  replace hr_l := hr_l.mono oo
  refine wC (ft) e0 (fun el => ?_) (fun el => ?_)
  ·
   rw [el, cond_true] at H
   refine wp_seq (wp_region_from ?_)
   obtain ⟨x50, ex50, H⟩ := bnd H
   refine wl fun K hK => ?_
   refine wc [] e0 bo (law_wakes_ok n bo.has  ex50) fun vx sl wq i1 sv hn => ?_
   obtain rfl := i1
   refine ⟨.one (.c (.bool x50)), rfl, fun q2 (m2 : Kn 259 [] [(tB 50 x50), (tS 0 a_l l.length c_l), (1, .one (.c (.int .u8 which.n))), (2, .one (.c (.int .u8 one.n))), (3, .one (.c (.int .u32 minute.n))), (4, .one (.c (.int .u32 before.n))), (tB 49 ft)] q2) => hK _ _ ?_⟩
   refine Rk 1 1 [(tB 10 x50)] m2 hn fun ux m9 => ?_
   refine wf (wp_ret ?_)
   obtain rfl := Option.some.inj H
   exact rt (.one (.c (.bool x50))) m9 hn rfl
  ·
   rw [el, cond_false] at H
   refine wp_skip (wp_seq (wp_region_G (by kernel_rfl) ?_))
   replace bo := bo.drew
   refine wpG_of_D [] [] [] ?_
   refine Dr [0, 2, 3, 4, 5, 6] [6, 5, 4, 3, 2, 0] ((tI 57 ((l.length : Nat) : Int)) :: (tI 55 (IntKind.i64.wrap which.n)) :: (tS 53 a_l l.length c_l) :: (51, .one (.c (.int .u32 minute.n))) :: (K10m21 a_l l c_l one before)) e0 bo fun uz nd => ?_
   obtain ⟨x58, ex58, H⟩ := bnd H
   refine D_rem 7 (fun _ _ _ _ _ h => h) nd rfl rfl (rfl) rfl (by decide) (by kernel_rfl) (by kernel_rfl) bo.plOk (by rfl) (by rfl) (nz_some ex58) fun q7 (nh : Kn 259 [] ((tI 58 (Int.tmod (IntKind.i64.wrap which.n) ((l.length : Nat) : Int))) :: (tI 57 ((l.length : Nat) : Int)) :: (tI 55 (IntKind.i64.wrap which.n)) :: (tS 53 a_l l.length c_l) :: (51, .one (.c (.int .u32 minute.n))) :: (K10m21 a_l l c_l one before)) q7) => ?_
   obtain ⟨x59, ex59, H⟩ := bnd H
   obtain ⟨o5, pd, p4⟩ := idx_some ex59
   obtain ⟨d, e, r8, ji, pw, jw⟩ := hr_l.get (by decide) p4
   obtain ⟨_, _, rfl, rfl, ⟨_, _, rfl, rfl, ⟨_, _, rfl, rfl, ⟨_, _, rfl, rfl, ⟨_, _, rfl, rfl, rfl⟩⟩⟩⟩⟩ := pw
   have fm : Mem ⟨w, h, noX⟩ dp (K10e2 d e which l) [⟨(K10c3 x59), none⟩] [] (World.drew rv) := bo.addPlc (cs := (K10c3 x59)) (fun j c hj => jw j _ (map_get hj)) rfl (by kernel_rfl) (by kernel_rfl)
   refine D_index 8 (Int.tmod (IntKind.i64.wrap which.n) ((l.length : Nat) : Int)) (K10c3 x59) (fun _ _ _ _ _ h => h) rfl rfl (rfl) rfl (by decide) (by kernel_rfl) (by kernel_rfl) nh bo.plOk (by rfl) (by rfl) (by rfl) ji (by rfl) o5 pd (by kernel_rfl) fun re (n6 : Kn 259 (K10e2 d e which l) ((tP 59 0 0) :: (tI 58 (Int.tmod (IntKind.i64.wrap which.n) ((l.length : Nat) : Int))) :: (tI 57 ((l.length : Nat) : Int)) :: (tI 55 (IntKind.i64.wrap which.n)) :: (tS 53 a_l l.length c_l) :: (51, .one (.c (.int .u32 minute.n))) :: (K10m21 a_l l c_l one before)) re) => ?_
   refine Dr [9, 10, 11] [11, 10, 9, 8, 7, 6, 5, 4, 3, 2, 0] ((tS 62 a_l l.length c_l) :: (tI 61 x59.bus) :: (51, .one (.c (.int .u32 minute.n))) :: (K10m21 a_l l c_l one before)) n6 fm fun vh n9 => ?_
   obtain ⟨x52, ex52, H⟩ := bnd H
   refine Dl 1 fun K hK => ?_
   refine wc [.c (.int .u32 minute.n)] n9 fm (law_minuted_ok n fm.has minute ex52) fun v4 sr wz i7 ot fn => ?_
   replace hr_l := hr_l.mono ot
   obtain rfl := i7
   refine ⟨.one (.c (.int .i64 x52)), rfl, fun rg (oa : Kn 259 (K10e2 d e which l) ((tI 52 x52) :: (tS 62 a_l l.length c_l) :: (tI 61 x59.bus) :: (51, .one (.c (.int .u32 minute.n))) :: (K10m21 a_l l c_l one before)) rg) => hK _ _ fn.plOk ?_⟩
   obtain ⟨x63, ex63, H⟩ := bnd H
   refine Dl 12 fun K hK => ?_
   refine wc [.c (.slice a_l l.length c_l)] oa fn (law_fresh_ok n fn.has l hr_l ex63) fun v5 st w0 i8 ou db => ?_
   replace hr_l := hr_l.mono ou
   obtain rfl := i8
   refine ⟨.one (.c (.int .i64 x63)), rfl, fun rh (ob : Kn 259 (K10e2 d e which l) ((tI 63 x63) :: (tI 52 x52) :: (tS 62 a_l l.length c_l) :: (tI 61 x59.bus) :: (51, .one (.c (.int .u32 minute.n))) :: (K10m21 a_l l c_l one before)) rh) => hK _ _ db.plOk ?_⟩
   refine Dr [13, 14, 15] [15, 14, 13, 12, 1, 11, 10, 9, 8, 7, 6, 5, 4, 3, 2, 0] ((tI 13 x63) :: (tI 12 x59.bus) :: (tI 11 x52) :: (K10m21 a_l l c_l one before)) ob db fun vi oc => ?_
   refine wpD_end (by kernel_rfl) (wp_seq (wp_region_from (Rk 0 1 ((tS 65 a_l l.length c_l) :: (tI 13 x63) :: (tI 12 x59.bus) :: (tI 11 x52) :: (K10m21 a_l l c_l one before)) oc db fun sz j3 => ?_)))
   obtain ⟨x66, ex66, H⟩ := bnd H
   refine wl fun K hK => ?_
   refine wc [.c (.slice a_l l.length c_l)] j3 db (law_Cards_ok n db.has l hr_l ex66) fun vj sa v7 ij oj fa => ?_
   obtain ⟨ce, ck, rfl, pf⟩ := ij
   refine ⟨.one (.c (.slice ce x66.length ck)), rfl, fun qa (j4 : Kn 259 (K10e2 d e which l) ((tS 66 ce x66.length ck) :: (tS 65 a_l l.length c_l) :: (tI 13 x63) :: (tI 12 x59.bus) :: (tI 11 x52) :: (K10m21 a_l l c_l one before)) qa) => hK _ _ ?_⟩
   refine Rk 2 2 ((tI 68 x52) :: (tI 67 x59.bus) :: (tS 66 ce x66.length ck) :: (tI 13 x63) :: (tI 12 x59.bus) :: (tI 11 x52) :: (K10m21 a_l l c_l one before)) j4 fa fun s0 j5 => ?_
   obtain ⟨x69, ex69, H⟩ := bnd H
   refine wl fun K hK => ?_
   refine wc [.c (.slice ce x66.length ck), .c (.int .i64 x59.bus), .c (.int .i64 x52)] j5 fa (pit_Open_ok n fa.has x66 pf x59.bus x52 ex69) fun vk sb v8 il ok dy => ?_
   replace hr_l := hr_l.mono (Heap.le_trans oj ok)
   obtain ⟨_, _, rfl, ⟨a, b, rfl, af⟩, rfl⟩ := il
   refine ⟨.tup [.c (.slice a x69.1.length b), .c (.int .i64 x69.2)], rfl, fun qb (j6 : Kn 259 (K10e2 d e which l) ((69, .tup [.c (.slice a x69.1.length b), .c (.int .i64 x69.2)]) :: (tI 68 x52) :: (tI 67 x59.bus) :: (tS 66 ce x66.length ck) :: (tI 13 x63) :: (tI 12 x59.bus) :: (tI 11 x52) :: (K10m21 a_l l c_l one before)) qb) => hK _ _ ?_⟩
   refine Rk 5 5 ((tI 15 x69.2) :: (K10m18 a x69 b x63 x59 x52 a_l l c_l one before)) j6 dy fun s1 j7 => ?_
   refine wf (wp_seq (wp_region_from (Rk 0 1 ((tS 73 a_l l.length c_l) :: (tI 15 x69.2) :: (K10m18 a x69 b x63 x59 x52 a_l l c_l one before)) j7 dy fun s2 j8 => ?_)))
   obtain ⟨x74, ex74, H⟩ := bnd H
   refine wl fun K hK => ?_
   refine wc [.c (.slice a_l l.length c_l)] j8 dy (law_Cards_ok n dy.has l hr_l ex74) fun vl sc v9 im g4 g8 => ?_
   obtain ⟨df, dk, rfl, pg⟩ := im
   refine ⟨.one (.c (.slice df x74.length dk)), rfl, fun qc (j9 : Kn 259 (K10e2 d e which l) ((tS 74 df x74.length dk) :: (tS 73 a_l l.length c_l) :: (tI 15 x69.2) :: (K10m18 a x69 b x63 x59 x52 a_l l c_l one before)) qc) => hK _ _ ?_⟩
   obtain ⟨x75, ex75, H⟩ := bnd H
   refine wl fun K hK => ?_
   refine wc [.c (.slice df x74.length dk)] j9 g8 (pit_Void_ok n g8.has x74 pg ex75) fun vm i9 wb io g5 cb => ?_
   replace hr_l := hr_l.mono (Heap.le_trans g4 g5)
   replace af := af.mono (Heap.le_trans g4 g5)
   obtain ⟨_, _, rfl, ⟨x, z, rfl, dc⟩, rfl⟩ := io
   refine ⟨.tup [.c (.slice x x75.1.length z), .c (.int .i64 x75.2)], rfl, fun qe (kb : Kn 259 (K10e2 d e which l) ((75, .tup [.c (.slice x x75.1.length z), .c (.int .i64 x75.2)]) :: (tS 74 df x74.length dk) :: (tS 73 a_l l.length c_l) :: (tI 15 x69.2) :: (K10m18 a x69 b x63 x59 x52 a_l l c_l one before)) qe) => hK _ _ ?_⟩
   refine Rk 3 5 ((tI 17 x75.2) :: (tS 16 x x75.1.length z) :: (tI 15 x69.2) :: (K10m18 a x69 b x63 x59 x52 a_l l c_l one before)) kb cb fun s3 kc => ?_
   refine wf (wp_seq (wp_seq ?_))
   obtain ⟨hu, dl, H⟩ := bnd H
   refine wp_mid' (fun a' w' => ∃ (fu : Array Value) (bv : Heap), a' = ⟨fu, []⟩ ∧ Kn 259 (K10e2 d e which l) [(tS 16 x x75.1.length z), (tS 14 a x69.1.length b), (tI 13 x63), (tI 12 x59.bus), (tI 11 x52), (tS 0 a_l l.length c_l), (2, .one (.c (.int .u8 one.n))), (4, .one (.c (.int .u32 before.n))), (tB 83 hu)] fu ∧ Mem ⟨w, h, noX⟩ bv (K10e2 d e which l) [⟨(K10c3 x59), none⟩] [] w' ∧ Heap.le i9 bv) ?_ ?_
   ·
    refine wp_region_from (Rk 0 3 ((tB 80 (x69.2 != 0)) :: (tI 17 x75.2) :: (tS 16 x x75.1.length z) :: (K10m18 a x69 b x63 x59 x52 a_l l c_l one before)) kc cb fun h3 gm => ?_)
    rcases Bool.eq_false_or_eq_true ((x69.2 != 0)) with ct | ct
    ·
     rw [ct, cond_true] at dl
     have kd : Kn 259 (K10e2 d e which l) ((tB 80 true) :: (tI 17 x75.2) :: (tS 16 x x75.1.length z) :: (K10m18 a x69 b x63 x59 x52 a_l l c_l one before)) h3 := (gm.setB 80 true (by rfl) ct).kp
     refine Rk 3 3 ((tB 83 true) :: (tS 16 x x75.1.length z) :: (K10m18 a x69 b x63 x59 x52 a_l l c_l one before)) kd cb fun s4 ke => ?_
     refine wf ?_
     obtain rfl := Option.some.inj dl
     exact Exists.intro _ ⟨_, rfl, ke.kp, cb, (Heap.le_refl _)⟩
    ·
     rw [ct, cond_false] at dl
     have kf : Kn 259 (K10e2 d e which l) ((tB 80 false) :: (tI 17 x75.2) :: (tS 16 x x75.1.length z) :: (K10m18 a x69 b x63 x59 x52 a_l l c_l one before)) h3 := (gm.setB 80 false (by rfl) ct).kp
     refine Rk 3 3 ((tB 83 (x75.2 != 0)) :: (tS 16 x x75.1.length z) :: (K10m18 a x69 b x63 x59 x52 a_l l c_l one before)) kf cb fun s5 kg => ?_
     refine wf ?_
     obtain rfl := Option.some.inj dl
     exact Exists.intro _ ⟨_, rfl, kg.kp, cb, (Heap.le_refl _)⟩
   ·
    rintro _ ri ⟨fu, bv, rfl, et, c5, e8⟩
    replace hr_l := hr_l.mono e8
    replace af := af.mono e8
    replace dc := dc.mono e8
    refine wC (hu) et (fun ec => ?_) (fun ec => ?_)
    ·
     rw [ec, cond_true] at H
     refine wp_seq (wp_region_from (Rk 0 1 [(tB 10 false)] et c5 fun s6 kh => ?_))
     refine wf (wp_ret ?_)
     obtain rfl := Option.some.inj H
     exact rt (.one (.c (.bool false))) kh c5 rfl
    ·
     rw [ec, cond_false] at H
     refine wp_skip (wp_seq (wp_region_from (Rk 0 1 ((tS 18 none 0 0) :: (tS 16 x x75.1.length z) :: (K10m18 a x69 b x63 x59 x52 a_l l c_l one before)) et c5 fun s7 ki => ?_)))
     refine wf (wp_seq (wp_seq (wp_region_from (Rk 0 1 ((tI 19 0) :: (tS 18 none 0 0) :: (tS 16 x x75.1.length z) :: (K10m18 a x69 b x63 x59 x52 a_l l c_l one before)) ki c5 fun s8 kj => ?_))))
     refine wf ?_
     have ov : Mem ⟨w, h, noX⟩ bv (K10e2 d e which l) [⟨(K10c3 x59), none⟩] [⟨none, 0, 0, 24, 6, [], 0⟩] ri := c5.nilRow 24 6
     have jk : Cells bv ([] : List Card) [] := Cells.nil
     obtain ⟨k, f8, H⟩ := bnd H
     refine wp_mid' (fun a' w' => ∃ (o : Option Addr) (p : Nat) (f : List Value) (fv : Array Value) (dm : Heap), a' = ⟨fv, []⟩ ∧ Kn 259 (K10e2 d e which l) ((tS 18 o k.length p) :: (K10m18 a x69 b x63 x59 x52 a_l l c_l one before)) fv ∧ Mem ⟨w, h, noX⟩ dm (K10e2 d e which l) [⟨(K10c3 x59), none⟩] [⟨o, k.length, p, 24, 6, f, 0⟩] w' ∧ Heap.le bv dm ∧ Cells dm k f) ?_ ?_
     ·
      refine wp_block ?_
      refine wp_loop_n (fun p6 a' w' => ∃ (x_v10 : List Card) (x_v11 : Int) (ai : Option Addr) (aj : Nat) (ba : List Value) (fw : Array Value) (cp : Heap), a' = ⟨fw, []⟩ ∧ Kn 259 (K10e2 d e which l) ((tI 19 x_v11) :: (tS 18 ai x_v10.length aj) :: (tS 16 x x75.1.length z) :: (K10m18 a x69 b x63 x59 x52 a_l l c_l one before)) fw ∧ Mem ⟨w, h, noX⟩ cp (K10e2 d e which l) [⟨(K10c3 x59), none⟩] [⟨ai, x_v10.length, aj, 24, 6, ba, 0⟩] w' ∧ Heap.le bv cp ∧ Cells cp x_v10 ba ∧ law_PitSigned_l1 p6 l x75 x_v10 x_v11 = some k) n ?_ ?_
      ·
       exact Exists.intro ([] : List Card) ⟨0, none, 0, ([]), _, _, rfl, kj.kp, ov, (Heap.le_refl _), jk, f8⟩
      ·
       rintro dd _ rj ⟨x_v10, x_v11, ai, aj, ba, fw, cp, rfl, kl, dz, b9, c3, al⟩
       clear f8
       obtain _ | dd := dd
       ·
        rw [law_PitSigned_l1] at al; cases al
       rw [law_PitSigned_l1] at al
       replace hr_l := hr_l.mono b9
       replace af := af.mono b9
       replace dc := dc.mono b9
       refine wp_seq (wp_seq (wp_region_from (Rk 0 4 ((tB 87 (decide (x_v11 < ((l.length : Nat) : Int)))) :: (tI 19 x_v11) :: (tS 18 ai x_v10.length aj) :: (tS 16 x x75.1.length z) :: (K10m18 a x69 b x63 x59 x52 a_l l c_l one before)) kl dz fun ta eu => ?_)))
       refine wf (wC (decide (x_v11 < ((l.length : Nat) : Int))) eu (fun ed => ?_) (fun ed => ?_))
       ·
        rw [ed, cond_true] at al
        refine wp_skip (wp_seq (wp_block (wp_seq (wp_region_from (Rk 0 3 ((tI 92 x_v11) :: (tS 91 a_l l.length c_l) :: (tS 90 x x75.1.length z) :: (tI 19 x_v11) :: (tS 18 ai x_v10.length aj) :: (tS 16 x x75.1.length z) :: (K10m18 a x69 b x63 x59 x52 a_l l c_l one before)) eu dz fun tb kn => ?_)))))
        obtain ⟨x93, ex93, al⟩ := bnd al
        obtain ⟨oz, o7, py⟩ := idx_some ex93
        obtain ⟨a7, a9, r2, jc, pq, jl⟩ := hr_l.get (by decide) py
        obtain ⟨_, _, rfl, rfl, ⟨_, _, rfl, rfl, ⟨_, _, rfl, rfl, ⟨_, _, rfl, rfl, ⟨_, _, rfl, rfl, rfl⟩⟩⟩⟩⟩ := pq
        have fb : Mem ⟨w, h, noX⟩ cp [(d, e + (Int.tmod (IntKind.i64.wrap which.n) ((l.length : Nat) : Int) : Int).toNat * 6), (a7, a9 + (x_v11 : Int).toNat * 6)] [⟨(K10c3 x59), none⟩, ⟨(K10c4 x93), none⟩] [⟨ai, x_v10.length, aj, 24, 6, ba, 0⟩] rj := dz.addPlc (cs := (K10c4 x93)) (fun j c hj => jl j _ (map_get hj)) rfl (by kernel_rfl) (by kernel_rfl)
        refine R_index 3 (x_v11) rfl rfl (rfl) rfl (by decide) kn (by rfl) (by rfl) (by rfl) jc (by rfl) oz o7 (by kernel_rfl) fun qf (kq : Kn 259 [(d, e + (Int.tmod (IntKind.i64.wrap which.n) ((l.length : Nat) : Int) : Int).toNat * 6), (a7, a9 + (x_v11 : Int).toNat * 6)] ((tP 93 1 0) :: (tI 92 x_v11) :: (tS 91 a_l l.length c_l) :: (tS 90 x x75.1.length z) :: (tI 19 x_v11) :: (tS 18 ai x_v10.length aj) :: (tS 16 x x75.1.length z) :: (K10m18 a x69 b x63 x59 x52 a_l l c_l one before)) qf) => ?_
        refine Rk 4 2 ((tI 95 x93.number) :: (tS 90 x x75.1.length z) :: (tI 19 x_v11) :: (tS 18 ai x_v10.length aj) :: (tS 16 x x75.1.length z) :: (K10m18 a x69 b x63 x59 x52 a_l l c_l one before)) kq fb fun tc kr => ?_
        obtain ⟨x96, ex96, al⟩ := bnd al
        refine wl fun K hK => ?_
        refine wc [.c (.slice x x75.1.length z), .c (.int .i64 x93.number)] kr fb (ref_Has_ok dd fb.has x75.1 dc x93.number ex96) fun vn b7 rk ip dt c6 => ?_
        replace hr_l := hr_l.mono dt
        replace c3 := c3.mono dt
        obtain rfl := ip
        refine ⟨.one (.c (.bool x96)), rfl, fun qg (kt : Kn 259 [(d, e + (Int.tmod (IntKind.i64.wrap which.n) ((l.length : Nat) : Int) : Int).toNat * 6), (a7, a9 + (x_v11 : Int).toNat * 6)] ((tB 96 x96) :: (tI 95 x93.number) :: (tS 90 x x75.1.length z) :: (tI 19 x_v11) :: (tS 18 ai x_v10.length aj) :: (tS 16 x x75.1.length z) :: (K10m18 a x69 b x63 x59 x52 a_l l c_l one before)) qg) => hK _ _ ?_⟩
        refine Rk 7 1 ((tB 97 (!x96)) :: (tI 19 x_v11) :: (tS 18 ai x_v10.length aj) :: (tS 16 x x75.1.length z) :: (K10m18 a x69 b x63 x59 x52 a_l l c_l one before)) kt c6 fun td ev => ?_
        refine wf (wC ((!x96)) ev (fun ee => ?_) (fun ee => ?_))
        ·
         rw [ee, cond_true] at al
         refine wp_region_from (Rk 0 3 ((tI 100 x_v11) :: (tS 99 a_l l.length c_l) :: (tS 98 ai x_v10.length aj) :: (tI 19 x_v11) :: (tS 16 x x75.1.length z) :: (K10m18 a x69 b x63 x59 x52 a_l l c_l one before)) ev c6 fun te ku => ?_)
         obtain ⟨x101, ex101, al⟩ := bnd al
         obtain ⟨o0, o8, pz⟩ := idx_some ex101
         obtain ⟨bk, bq, r3, jd, pr, jm⟩ := hr_l.get (by decide) pz
         obtain ⟨_, _, rfl, rfl, ⟨_, _, rfl, rfl, ⟨_, _, rfl, rfl, ⟨_, _, rfl, rfl, ⟨_, _, rfl, rfl, rfl⟩⟩⟩⟩⟩ := pr
         have g9 : Mem ⟨w, h, noX⟩ b7 (K10e11 d e which l a7 a9 x_v11 bk bq) [⟨(K10c3 x59), none⟩, ⟨(K10c4 x93), none⟩, ⟨(K10c5 x101), none⟩] [⟨ai, x_v10.length, aj, 24, 6, ba, 0⟩] rk := c6.addPlc (cs := (K10c5 x101)) (fun j c hj => jm j _ (map_get hj)) rfl (by kernel_rfl) (by kernel_rfl)
         refine R_index 3 (x_v11) rfl rfl (rfl) rfl (by decide) ku (by rfl) (by rfl) (by rfl) jd (by rfl) o0 o8 (by kernel_rfl) fun qh (kv : Kn 259 (K10e11 d e which l a7 a9 x_v11 bk bq) ((tP 101 2 0) :: (tI 100 x_v11) :: (tS 99 a_l l.length c_l) :: (tS 98 ai x_v10.length aj) :: (tI 19 x_v11) :: (tS 16 x x75.1.length z) :: (K10m18 a x69 b x63 x59 x52 a_l l c_l one before)) qh) => ?_
         refine Rk 4 1 ((tA 102 (K10c5 x101)) :: (tS 98 ai x_v10.length aj) :: (tI 19 x_v11) :: (tS 16 x x75.1.length z) :: (K10m18 a x69 b x63 x59 x52 a_l l c_l one before)) kv g9 fun tf kw => ?_
         refine wl fun K hK => ?_
         refine wS 24 6 (K10c5 x101) kw g9 fun dg qi rl (kx : Kn 259 (K10e11 d e which l a7 a9 x_v11 bk bq) ((tS 103 dg 1 1) :: (tA 102 (K10c5 x101)) :: (tS 98 ai x_v10.length aj) :: (tI 19 x_v11) :: (tS 16 x x75.1.length z) :: (K10m18 a x69 b x63 x59 x52 a_l l c_l one before)) qi) (ha : Mem ⟨w, h, noX⟩ b7 (K10e11 d e which l a7 a9 x_v11 bk bq) [⟨(K10c3 x59), none⟩, ⟨(K10c4 x93), none⟩, ⟨(K10c5 x101), none⟩] [⟨ai, x_v10.length, aj, 24, 6, ba, 0⟩, ⟨dg, 1, 1, 24, 6, ([.int .i64 x101.bus, .int .i64 x101.number, .int .i64 x101.minute, .int .u8 x101.kind.n, .int .i64 x101.part, .int .i64 x101.sg] : List Value), 0⟩] rl) => ?_
         have es : Cells b7 ([x101] : List Card) ([.int .i64 x101.bus, .int .i64 x101.number, .int .i64 x101.minute, .int .u8 x101.kind.n, .int .i64 x101.part, .int .i64 x101.sg] : List Value) := ⟨_, _, rfl, ((rep_pair rep_int (rep_pair rep_int (rep_pair rep_int (rep_pair rep_ik (rep_pair rep_int rep_int))))) : rep b7 (x101 : Card) _), rfl⟩
         refine hK _ _ ?_
         obtain ⟨x104, ex104, al⟩ := bnd al
         obtain ⟨fo, od⟩ := app_some ex104
         refine wl fun K hK => ?_
         refine wp_append 0 48 1 _ (x104.length) _ ([.int .i64 x101.bus, .int .i64 x101.number, .int .i64 x101.minute, .int .u8 x101.kind.n, .int .i64 x101.part, .int .i64 x101.sg] : List Value) kx ha rfl rfl (by decide) rfl (by rfl) (by kernel_rfl) (by rfl) (by rfl) (Cells.len es) (ha.rowCell (i := 1) rfl) es.one (by rw [fo]; simp <;> omega) (by rw [fo]; exact od) (by decide) fun cf cl gc qj rm jy (kz : Kn 259 (K10e11 d e which l a7 a9 x_v11 bk bq) ((tS 104 cf x104.length cl) :: (tS 103 dg 1 1) :: (tA 102 (K10c5 x101)) :: (tS 98 ai x_v10.length aj) :: (tI 19 x_v11) :: (tS 16 x x75.1.length z) :: (K10m18 a x69 b x63 x59 x52 a_l l c_l one before)) qj) (fc : Mem ⟨w, h, noX⟩ b7 (K10e11 d e which l a7 a9 x_v11 bk bq) [⟨(K10c3 x59), none⟩, ⟨(K10c4 x93), none⟩, ⟨(K10c5 x101), none⟩] [⟨cf, x104.length, cl, 24, 6, (ba ++ ([.int .i64 x101.bus, .int .i64 x101.number, .int .i64 x101.minute, .int .u8 x101.kind.n, .int .i64 x101.part, .int .i64 x101.sg] : List Value)), gc⟩, ⟨dg, 1, 1, 24, 6, ([.int .i64 x101.bus, .int .i64 x101.number, .int .i64 x101.minute, .int .u8 x101.kind.n, .int .i64 x101.part, .int .i64 x101.sg] : List Value), 0⟩] rm) => ?_
         have jn : Cells b7 x104 (ba ++ ([.int .i64 x101.bus, .int .i64 x101.number, .int .i64 x101.minute, .int .u8 x101.kind.n, .int .i64 x101.part, .int .i64 x101.sg] : List Value)) := by rw [fo]; exact Cells.append c3 es
         obtain rfl : gc = 0 := Nat.le_zero.1 jy
         refine hK _ _ ?_
         refine Rk 7 1 ((tS 18 cf x104.length cl) :: (tI 19 x_v11) :: (tS 16 x x75.1.length z) :: (K10m18 a x69 b x63 x59 x52 a_l l c_l one before)) kz fc fun tg k0 => ?_
         refine wf (wp_region_from (Rk 0 3 ((tI 19 (IntKind.i64.wrap (x_v11 + 1))) :: (tS 18 cf x104.length cl) :: (tS 16 x x75.1.length z) :: (K10m18 a x69 b x63 x59 x52 a_l l c_l one before)) k0 fc fun th k1 => ?_))
         refine wf ?_
         exact Exists.intro dd ⟨Nat.lt_succ_self _, Exists.intro x104 ⟨(IntKind.i64.wrap (x_v11 + 1)), cf, cl, (ba ++ ([.int .i64 x101.bus, .int .i64 x101.number, .int .i64 x101.minute, .int .u8 x101.kind.n, .int .i64 x101.part, .int .i64 x101.sg] : List Value)), _, _, rfl, ((k1.keep [19, 18, 16, 14, 13, 12, 11, 0, 2, 4] (by rfl)).cut 1 (by kernel_rfl)), ((fc.cutRw 1).cutPl 1 (by kernel_rfl)), (Heap.le_trans b9 dt), jn, al⟩⟩
        ·
         rw [ee, cond_false] at al
         refine wp_skip (wp_region_from (Rk 0 3 ((tI 19 (IntKind.i64.wrap (x_v11 + 1))) :: (tS 18 ai x_v10.length aj) :: (tS 16 x x75.1.length z) :: (K10m18 a x69 b x63 x59 x52 a_l l c_l one before)) ev c6 fun ti k2 => ?_))
         refine wf ?_
         exact Exists.intro dd ⟨Nat.lt_succ_self _, Exists.intro x_v10 ⟨(IntKind.i64.wrap (x_v11 + 1)), ai, aj, ba, _, _, rfl, ((k2.keep [19, 18, 16, 14, 13, 12, 11, 0, 2, 4] (by rfl)).cut 1 (by kernel_rfl)), (c6.cutPl 1 (by kernel_rfl)), (Heap.le_trans b9 dt), c3, al⟩⟩
       ·
        rw [ed, cond_false] at al
        refine wp_exit ?_
        obtain rfl := Option.some.inj al
        exact Exists.intro ai ⟨aj, ba, _, _, rfl, eu.kp, dz, b9, c3⟩
     ·
      rintro _ rn ⟨o, p, f, fv, dm, rfl, k3, fd, g6, ah⟩
      refine wp_seq (wp_region_from (Rk 0 1 ((tS 106 o k.length p) :: (K10m18 a x69 b x63 x59 x52 a_l l c_l one before)) k3 fd fun tk k4 => ?_))
      obtain ⟨gi, e9, pl, d0⟩ := fd.settle (i := 0) rfl
      replace ah := ah.mono e9
      replace d0 : Mem ⟨w, h, noX⟩ gi (K10e2 d e which l) [⟨(K10c3 x59), none⟩] [⟨o, k.length, p, 24, 6, f, (f : List Value).length⟩] rn := d0
      have ak : RepS gi o p k := ⟨_, ah, pl, fd.rowCap (i := 0) rfl⟩
      obtain ⟨x107, ex107, H⟩ := bnd H
      refine wl fun K hK => ?_
      refine wc [.c (.slice o k.length p)] k4 d0 (law_Cards_ok n d0.has k ak ex107) fun vo sd wd iq du fe => ?_
      obtain ⟨cg, cm, rfl, ph⟩ := iq
      refine ⟨.one (.c (.slice cg x107.length cm)), rfl, fun qk (k7 : Kn 259 (K10e2 d e which l) ((tS 107 cg x107.length cm) :: (tS 106 o k.length p) :: (K10m18 a x69 b x63 x59 x52 a_l l c_l one before)) qk) => hK _ _ ?_⟩
      refine Rk 2 2 ((tI 109 x52) :: (tI 108 x59.bus) :: (tS 107 cg x107.length cm) :: (K10m18 a x69 b x63 x59 x52 a_l l c_l one before)) k7 fe fun tl k8 => ?_
      obtain ⟨x110, ex110, H⟩ := bnd H
      refine wl fun K hK => ?_
      refine wc [.c (.slice cg x107.length cm), .c (.int .i64 x59.bus), .c (.int .i64 x52)] k8 fe (pit_Open_ok n fe.has x107 ph x59.bus x52 ex110) fun vp ja we ir dv b1 => ?_
      replace hr_l := hr_l.mono (Heap.le_trans (Heap.le_trans (Heap.le_trans g6 e9) du) dv)
      replace af := af.mono (Heap.le_trans (Heap.le_trans (Heap.le_trans g6 e9) du) dv)
      replace ak := ak.mono (Heap.le_trans du dv)
      replace ah := ah.mono (Heap.le_trans du dv)
      obtain ⟨_, _, rfl, ⟨bd, be, rfl, pi⟩, rfl⟩ := ir
      refine ⟨.tup [.c (.slice bd x110.1.length be), .c (.int .i64 x110.2)], rfl, fun ql (k9 : Kn 259 (K10e2 d e which l) ((110, .tup [.c (.slice bd x110.1.length be), .c (.int .i64 x110.2)]) :: (tI 109 x52) :: (tI 108 x59.bus) :: (tS 107 cg x107.length cm) :: (K10m18 a x69 b x63 x59 x52 a_l l c_l one before)) ql) => hK _ _ ?_⟩
      refine Rk 5 5 ((tI 21 x110.2) :: (tS 20 bd x110.1.length be) :: (K10m18 a x69 b x63 x59 x52 a_l l c_l one before)) k9 b1 fun tm la => ?_
      refine wf (wp_seq (wp_seq ?_))
      obtain ⟨hv, b5, H⟩ := bnd H
      refine wp_mid' (fun a' w' => ∃ (fx : Array Value) (a1 : Heap), a' = ⟨fx, []⟩ ∧ Kn 259 (K10e2 d e which l) [(tS 14 a x69.1.length b), (tI 13 x63), (tI 12 x59.bus), (tI 11 x52), (tS 0 a_l l.length c_l), (2, .one (.c (.int .u8 one.n))), (4, .one (.c (.int .u32 before.n))), (tB 120 hv)] fx ∧ Mem ⟨w, h, noX⟩ a1 (K10e2 d e which l) [⟨(K10c3 x59), none⟩] [⟨o, k.length, p, 24, 6, f, (f : List Value).length⟩] w' ∧ Heap.le ja a1) ?_ ?_
      ·
       refine wp_region_from (Rk 0 3 ((tB 115 (x110.2 != 0)) :: (tS 20 bd x110.1.length be) :: (K10m18 a x69 b x63 x59 x52 a_l l c_l one before)) la b1 fun h7 gr => ?_)
       rcases Bool.eq_false_or_eq_true ((x110.2 != 0)) with cw | cw
       ·
        rw [cw, cond_true] at b5
        have lb : Kn 259 (K10e2 d e which l) ((tB 115 true) :: (tS 20 bd x110.1.length be) :: (K10m18 a x69 b x63 x59 x52 a_l l c_l one before)) h7 := (gr.setB 115 true (by rfl) cw).kp
        refine Rk 3 5 ((tB 120 true) :: (K10m18 a x69 b x63 x59 x52 a_l l c_l one before)) lb b1 fun tn lc => ?_
        refine wf ?_
        obtain rfl := Option.some.inj b5
        exact Exists.intro _ ⟨_, rfl, lc.kp, b1, (Heap.le_refl _)⟩
       ·
        rw [cw, cond_false] at b5
        have ld : Kn 259 (K10e2 d e which l) ((tB 115 false) :: (tS 20 bd x110.1.length be) :: (K10m18 a x69 b x63 x59 x52 a_l l c_l one before)) h7 := (gr.setB 115 false (by rfl) cw).kp
        refine Rk 3 2 ((tS 117 bd x110.1.length be) :: (tS 116 a x69.1.length b) :: (tB 115 false) :: (K10m18 a x69 b x63 x59 x52 a_l l c_l one before)) ld b1 fun tp gs => ?_
        obtain ⟨x118, ex118, b5⟩ := bnd b5
        refine wpFrom_loud _ rfl (wantedS_sound gs (by kernel_rfl)) fun K hK => ?_
        refine wc [.c (.slice a x69.1.length b), .c (.slice bd x110.1.length be)] gs b1 (law_ints_ok n b1.has x69.1 af x110.1 pi ex118) fun vq se wg iu ol hc => ?_
        obtain rfl := iu
        refine ⟨.one (.c (.bool x118)), rfl, fun qm (lf : Kn 259 (K10e2 d e which l) ((tB 118 x118) :: (tS 117 bd x110.1.length be) :: (tS 116 a x69.1.length b) :: (tB 115 false) :: (K10m18 a x69 b x63 x59 x52 a_l l c_l one before)) qm) => hK _ _ ?_⟩
        refine Rk 6 2 ((tB 120 (!x118)) :: (K10m18 a x69 b x63 x59 x52 a_l l c_l one before)) lf hc fun tq lg => ?_
        refine wf ?_
        obtain rfl := Option.some.inj b5
        exact Exists.intro _ ⟨_, rfl, lg.kp, hc, ol⟩
      ·
       rintro _ wh ⟨fx, a1, rfl, ew, c7, dw⟩
       replace hr_l := hr_l.mono dw
       replace af := af.mono dw
       replace ak := ak.mono dw
       replace ah := ah.mono dw
       refine wC (hv) ew (fun ef => ?_) (fun ef => ?_)
       ·
        rw [ef, cond_true] at H
        refine wp_seq (wp_region_from (Rk 0 1 [(tB 10 false)] ew c7 fun tr li => ?_))
        refine wf (wp_ret ?_)
        obtain rfl := Option.some.inj H
        exact rt (.one (.c (.bool false))) li c7 rfl
       ·
        rw [ef, cond_false] at H
        refine wp_skip (wp_seq (wp_region_from (Rk 0 5 [(tI 125 (IntKind.i64.wrap (x52 + 1))), (tI 123 (IntKind.i64.wrap before.n)), (tI 121 x52), (tS 14 a x69.1.length b), (tI 13 x63), (tI 12 x59.bus), (tI 11 x52), (tS 0 a_l l.length c_l), (2, .one (.c (.int .u8 one.n)))] ew c7 fun ts lj => ?_)))
        obtain ⟨x126, ex126, H⟩ := bnd H
        refine R_rem 5 lj rfl rfl (rfl) rfl (by decide) (by rfl) (by rfl) (nz_some ex126) fun qn (lk : Kn 259 (K10e2 d e which l) [(tI 126 (Int.tmod (IntKind.i64.wrap before.n) (IntKind.i64.wrap (x52 + 1)))), (tI 125 (IntKind.i64.wrap (x52 + 1))), (tI 123 (IntKind.i64.wrap before.n)), (tI 121 x52), (tS 14 a x69.1.length b), (tI 13 x63), (tI 12 x59.bus), (tI 11 x52), (tS 0 a_l l.length c_l), (2, .one (.c (.int .u8 one.n)))] qn) => ?_
        refine Rk 6 2 (K10m17 x52 before a x69 b x63 x59 a_l l c_l one) lk c7 fun tu ll => ?_
        refine wf (wp_seq (wp_region_from (wl fun K hK => ?_)))
        refine wS 24 6 [] ll c7 fun dh qo ro (lm : Kn 259 (K10e2 d e which l) ((tS 129 dh 0 0) :: (K10m17 x52 before a x69 b x63 x59 a_l l c_l one)) qo) (ff : Mem ⟨w, h, noX⟩ a1 (K10e2 d e which l) [⟨(K10c3 x59), none⟩] [⟨o, k.length, p, 24, 6, f, (f : List Value).length⟩, ⟨dh, 0, 0, 24, 6, ([] : List Value), 0⟩] ro) => ?_
        have jo : Cells a1 ([] : List Card) ([] : List Value) := Cells.nil
        refine hK _ _ ?_
        refine Rk 1 1 ((tS 130 a_l l.length c_l) :: (tS 129 dh 0 0) :: (K10m17 x52 before a x69 b x63 x59 a_l l c_l one)) lm ff fun tv lo => ?_
        obtain ⟨q, dr, po, _⟩ := id hr_l
        obtain ⟨x131, ex131, H⟩ := bnd H
        obtain ⟨fp, oe⟩ := app_some ex131
        refine wl fun K hK => ?_
        refine wp_append 1 48 l.length _ (x131.length) _ q lo ff rfl rfl (by decide) rfl (by rfl) (by kernel_rfl) (by rfl) (by rfl) (Cells.len dr) (po.cell ff.has dr.one) dr.one (by rw [fp]; simp <;> omega) (by rw [fp]; exact oe) (by decide) fun br bt gd qp rp jz (lq : Kn 259 (K10e2 d e which l) ((tS 131 br x131.length bt) :: (tS 130 a_l l.length c_l) :: (tS 129 dh 0 0) :: (K10m17 x52 before a x69 b x63 x59 a_l l c_l one)) qp) (hd : Mem ⟨w, h, noX⟩ a1 (K10e2 d e which l) [⟨(K10c3 x59), none⟩] [⟨o, k.length, p, 24, 6, f, (f : List Value).length⟩, ⟨br, x131.length, bt, 24, 6, (([] : List Value) ++ q), gd⟩] rp) => ?_
        have jp : Cells a1 x131 (([] : List Value) ++ q) := by rw [fp]; exact Cells.append jo dr
        obtain rfl : gd = 0 := Nat.le_zero.1 jz
        refine hK _ _ ?_
        refine Rk 3 4 ((tA 135 (K10c10 x59 x63 x52 before)) :: (tS 131 br x131.length bt) :: (K10m17 x52 before a x69 b x63 x59 a_l l c_l one)) lq hd fun tw lr => ?_
        refine wl fun K hK => ?_
        refine wS 24 6 (K10c10 x59 x63 x52 before) lr hd fun ab qq rq (ls : Kn 259 (K10e2 d e which l) ((tS 136 ab 1 1) :: (tA 135 (K10c10 x59 x63 x52 before)) :: (tS 131 br x131.length bt) :: (K10m17 x52 before a x69 b x63 x59 a_l l c_l one)) qq) (he : Mem ⟨w, h, noX⟩ a1 (K10e2 d e which l) [⟨(K10c3 x59), none⟩] [⟨o, k.length, p, 24, 6, f, (f : List Value).length⟩, ⟨br, x131.length, bt, 24, 6, (([] : List Value) ++ q), 0⟩, ⟨ab, 1, 1, 24, 6, ([.int .i64 x59.bus, .int .i64 x63, .int .i64 (IntKind.i64.wrap (x52 - (Int.tmod (IntKind.i64.wrap before.n) (IntKind.i64.wrap (x52 + 1))))), .int .u8 3, .int .i64 0, .int .i64 0] : List Value), 0⟩] rq) => ?_
        have am : Cells a1 ([(Card.mk x59.bus x63 (IntKind.i64.wrap (x52 - (Int.tmod (IntKind.i64.wrap before.n) (IntKind.i64.wrap (x52 + 1))))) (IK.mk 3) 0 0)] : List Card) ([.int .i64 x59.bus, .int .i64 x63, .int .i64 (IntKind.i64.wrap (x52 - (Int.tmod (IntKind.i64.wrap before.n) (IntKind.i64.wrap (x52 + 1))))), .int .u8 3, .int .i64 0, .int .i64 0] : List Value) := ⟨_, _, rfl, ((rep_pair rep_int (rep_pair rep_int (rep_pair rep_int (rep_pair rep_ik (rep_pair rep_int rep_int))))) : rep a1 ((Card.mk x59.bus x63 (IntKind.i64.wrap (x52 - (Int.tmod (IntKind.i64.wrap before.n) (IntKind.i64.wrap (x52 + 1))))) (IK.mk 3) 0 0) : Card) _), rfl⟩
        refine hK _ _ ?_
        obtain ⟨x137, ex137, H⟩ := bnd H
        obtain ⟨fq, og⟩ := app_some ex137
        refine wl fun K hK => ?_
        refine wp_append 1 48 1 _ (x137.length) _ ([.int .i64 x59.bus, .int .i64 x63, .int .i64 (IntKind.i64.wrap (x52 - (Int.tmod (IntKind.i64.wrap before.n) (IntKind.i64.wrap (x52 + 1))))), .int .u8 3, .int .i64 0, .int .i64 0] : List Value) ls he rfl rfl (by decide) rfl (by rfl) (by kernel_rfl) (by rfl) (by rfl) (Cells.len am) (he.rowCell (i := 2) rfl) am.one (by rw [fq]; simp <;> omega) (by rw [fq]; exact og) (by decide) fun ac ad gf qr ig j0 (lu : Kn 259 (K10e2 d e which l) ((tS 137 ac x137.length ad) :: (tS 136 ab 1 1) :: (tA 135 (K10c10 x59 x63 x52 before)) :: (tS 131 br x131.length bt) :: (K10m17 x52 before a x69 b x63 x59 a_l l c_l one)) qr) (hf : Mem ⟨w, h, noX⟩ a1 (K10e2 d e which l) [⟨(K10c3 x59), none⟩] [⟨o, k.length, p, 24, 6, f, (f : List Value).length⟩, ⟨ac, x137.length, ad, 24, 6, ((([] : List Value) ++ q) ++ ([.int .i64 x59.bus, .int .i64 x63, .int .i64 (IntKind.i64.wrap (x52 - (Int.tmod (IntKind.i64.wrap before.n) (IntKind.i64.wrap (x52 + 1))))), .int .u8 3, .int .i64 0, .int .i64 0] : List Value)), gf⟩, ⟨ab, 1, 1, 24, 6, ([.int .i64 x59.bus, .int .i64 x63, .int .i64 (IntKind.i64.wrap (x52 - (Int.tmod (IntKind.i64.wrap before.n) (IntKind.i64.wrap (x52 + 1))))), .int .u8 3, .int .i64 0, .int .i64 0] : List Value), 0⟩] ig) => ?_
        have an : Cells a1 x137 ((([] : List Value) ++ q) ++ ([.int .i64 x59.bus, .int .i64 x63, .int .i64 (IntKind.i64.wrap (x52 - (Int.tmod (IntKind.i64.wrap before.n) (IntKind.i64.wrap (x52 + 1))))), .int .u8 3, .int .i64 0, .int .i64 0] : List Value)) := by rw [fq]; exact Cells.append jp am
        obtain rfl : gf = 0 := Nat.le_zero.1 j0
        refine hK _ _ ?_
        obtain ⟨gj, ca, pm, d1⟩ := hf.settle (i := 1) rfl
        replace an := an.mono ca
        replace d1 : Mem ⟨w, h, noX⟩ gj (K10e2 d e which l) [⟨(K10c3 x59), none⟩] (K10r15 o k p f ac x137 ad q x59 x63 x52 before ab) ig := d1
        have ap : RepS gj ac ad x137 := ⟨_, an, pm, hf.rowCap (i := 1) rfl⟩
        obtain ⟨x138, ex138, H⟩ := bnd H
        refine wl fun K hK => ?_
        refine wc [.c (.slice ac x137.length ad)] lu d1 (law_Cards_ok n d1.has x137 ap ex138) fun vs sf wi iv bx fg => ?_
        obtain ⟨ch, cn, rfl, pj⟩ := iv
        refine ⟨.one (.c (.slice ch x138.length cn)), rfl, fun qs (lv : Kn 259 (K10e2 d e which l) ((tS 138 ch x138.length cn) :: (tS 137 ac x137.length ad) :: (tS 136 ab 1 1) :: (tA 135 (K10c10 x59 x63 x52 before)) :: (tS 131 br x131.length bt) :: (K10m17 x52 before a x69 b x63 x59 a_l l c_l one)) qs) => hK _ _ ?_⟩
        refine Rk 10 2 ((tI 140 x52) :: (tI 139 x59.bus) :: (tS 138 ch x138.length cn) :: (K10m17 x52 before a x69 b x63 x59 a_l l c_l one)) lv fg fun ty lw => ?_
        obtain ⟨x141, ex141, H⟩ := bnd H
        refine wl fun K hK => ?_
        refine wc [.c (.slice ch x138.length cn), .c (.int .i64 x59.bus), .c (.int .i64 x52)] lw fg (pit_Open_ok n fg.has x138 pj x59.bus x52 ex141) fun vt gk wj iw bz cc => ?_
        replace hr_l := hr_l.mono (Heap.le_trans (Heap.le_trans ca bx) bz)
        replace af := af.mono (Heap.le_trans (Heap.le_trans ca bx) bz)
        replace ak := ak.mono (Heap.le_trans (Heap.le_trans ca bx) bz)
        replace ap := ap.mono (Heap.le_trans bx bz)
        replace ah := ah.mono (Heap.le_trans (Heap.le_trans ca bx) bz)
        replace an := an.mono (Heap.le_trans bx bz)
        replace am := am.mono (Heap.le_trans (Heap.le_trans ca bx) bz)
        obtain ⟨_, _, rfl, ⟨s, u, rfl, b2⟩, rfl⟩ := iw
        refine ⟨.tup [.c (.slice s x141.1.length u), .c (.int .i64 x141.2)], rfl, fun qt (lx : Kn 259 (K10e2 d e which l) ((141, .tup [.c (.slice s x141.1.length u), .c (.int .i64 x141.2)]) :: (tI 140 x52) :: (tI 139 x59.bus) :: (tS 138 ch x138.length cn) :: (K10m17 x52 before a x69 b x63 x59 a_l l c_l one)) qt) => hK _ _ ?_⟩
        refine Rk 13 5 ((tI 24 x141.2) :: (tS 23 s x141.1.length u) :: (K10m17 x52 before a x69 b x63 x59 a_l l c_l one)) lx cc fun tz ly => ?_
        refine wf (wp_seq (wp_seq (wp_region_from (Rk 0 2 ((tB 145 (x141.2 != 0)) :: (tS 23 s x141.1.length u) :: (K10m17 x52 before a x69 b x63 x59 a_l l c_l one)) ly cc fun t0 ex => ?_))))
        refine wf (wC ((x141.2 != 0)) ex (fun eg => ?_) (fun eg => ?_))
        ·
         rw [eg, cond_true] at H
         refine wp_seq (wp_region_from (Rk 0 1 [(tB 10 false)] ex cc fun t1 lz => ?_))
         refine wf (wp_ret ?_)
         obtain rfl := Option.some.inj H
         exact rt (.one (.c (.bool false))) lz cc rfl
        ·
         rw [eg, cond_false] at H
         refine wp_skip (wp_seq (wp_seq (wp_region_from (Rk 0 1 ((tI 25 0) :: (tS 23 s x141.1.length u) :: (K10m17 x52 before a x69 b x63 x59 a_l l c_l one)) ex cc fun t2 l0 => ?_))))
         refine wf ?_
         obtain ⟨hw, f9, H⟩ := bnd H
         refine wp_mid' (fun a' w' => ∃ (h1 : Unit) (fz : Array Value) (bw : Heap), a' = ⟨fz, []⟩ ∧ Kn 259 (K10e2 d e which l) ((tS 23 s x141.1.length u) :: (K10m17 x52 before a x69 b x63 x59 a_l l c_l one)) fz ∧ Mem ⟨w, h, noX⟩ bw (K10e2 d e which l) [⟨(K10c3 x59), none⟩] (K10r15 o k p f ac x137 ad q x59 x63 x52 before ab) w' ∧ Heap.le gk bw ∧ hw = .go h1) ?_ ?_
         ·
          refine wp_block ?_
          refine wp_loop_n (fun p7 a' w' => ∃ (x_v20 : Int) (f0 : Array Value) (b8 : Heap), a' = ⟨f0, []⟩ ∧ Kn 259 (K10e2 d e which l) (K10m22 x_v20 s x141 u x52 before a x69 b x63 x59 a_l l c_l one) f0 ∧ Mem ⟨w, h, noX⟩ b8 (K10e2 d e which l) [⟨(K10c3 x59), none⟩] (K10r15 o k p f ac x137 ad q x59 x63 x52 before ab) w' ∧ Heap.le gk b8 ∧ law_PitSigned_l2 p7 l minute before x52 x69 x141 x_v20 = some hw) n ?_ ?_
          ·
           exact Exists.intro 0 ⟨_, _, rfl, l0.kp, cc, (Heap.le_refl _), f9⟩
          ·
           rintro b4 _ rr ⟨x_v20, f0, b8, rfl, l1, d2, a3, ag⟩
           clear f9
           obtain _ | b4 := b4
           ·
            rw [law_PitSigned_l2] at ag; cases ag
           rw [law_PitSigned_l2] at ag
           replace hr_l := hr_l.mono a3
           replace af := af.mono a3
           replace ak := ak.mono a3
           replace ap := ap.mono a3
           replace b2 := b2.mono a3
           replace ah := ah.mono a3
           replace an := an.mono a3
           replace am := am.mono a3
           refine wp_seq (wp_seq (wp_region_from (Rk 0 4 ((tB 149 (decide (x_v20 < ((l.length : Nat) : Int)))) :: (K10m22 x_v20 s x141 u x52 before a x69 b x63 x59 a_l l c_l one)) l1 d2 fun t3 ey => ?_)))
           refine wf (wC (decide (x_v20 < ((l.length : Nat) : Int))) ey (fun eh => ?_) (fun eh => ?_))
           ·
            rw [eh, cond_true] at ag
            refine wp_skip (wp_seq (wp_block (wp_seq (wp_region_from (Rk 0 2 ((tI 153 x_v20) :: (tS 152 a_l l.length c_l) :: (K10m22 x_v20 s x141 u x52 before a x69 b x63 x59 a_l l c_l one)) ey d2 fun t4 l2 => ?_)))))
            obtain ⟨x154, ex154, ag⟩ := bnd ag
            obtain ⟨o1, o9, p0⟩ := idx_some ex154
            obtain ⟨ao, aq, r4, je, ps, jq⟩ := hr_l.get (by decide) p0
            obtain ⟨_, _, rfl, rfl, ⟨_, _, rfl, rfl, ⟨_, _, rfl, rfl, ⟨_, _, rfl, rfl, ⟨_, _, rfl, rfl, rfl⟩⟩⟩⟩⟩ := ps
            have hi : Mem ⟨w, h, noX⟩ b8 [(d, e + (Int.tmod (IntKind.i64.wrap which.n) ((l.length : Nat) : Int) : Int).toNat * 6), (ao, aq + (x_v20 : Int).toNat * 6)] [⟨(K10c3 x59), none⟩, ⟨(K10c6 x154), none⟩] (K10r15 o k p f ac x137 ad q x59 x63 x52 before ab) rr := d2.addPlc (cs := (K10c6 x154)) (fun j c hj => jq j _ (map_get hj)) rfl (by kernel_rfl) (by kernel_rfl)
            refine R_index 2 (x_v20) rfl rfl (rfl) rfl (by decide) l2 (by rfl) (by rfl) (by rfl) je (by rfl) o1 o9 (by kernel_rfl) fun qv (l3 : Kn 259 [(d, e + (Int.tmod (IntKind.i64.wrap which.n) ((l.length : Nat) : Int) : Int).toNat * 6), (ao, aq + (x_v20 : Int).toNat * 6)] ((tP 154 1 0) :: (tI 153 x_v20) :: (tS 152 a_l l.length c_l) :: (K10m22 x_v20 s x141 u x52 before a x69 b x63 x59 a_l l c_l one)) qv) => ?_
            refine Rk 3 1 ((tA 155 (K10c6 x154)) :: (K10m22 x_v20 s x141 u x52 before a x69 b x63 x59 a_l l c_l one)) l3 hi fun t5 l4 => ?_
            refine wl fun K hK => ?_
            refine wa [.int .i64 0, .int .i64 0, .int .i64 0, .int .u8 0, .int .i64 0, .int .i64 0] l4 hi fun ax h8 rs (l6 : Kn 259 (K10e9 d e which l ao aq x_v20 ax) ((tP 26 2 0) :: (tA 155 (K10c6 x154)) :: (K10m22 x_v20 s x141 u x52 before a x69 b x63 x59 a_l l c_l one)) h8) (ow : Mem ⟨w, h, noX⟩ b8 (K10e9 d e which l ao aq x_v20 ax) [⟨(K10c3 x59), none⟩, ⟨(K10c6 x154), none⟩, ⟨[.int .i64 0, .int .i64 0, .int .i64 0, .int .u8 0, .int .i64 0, .int .i64 0], some 24⟩] (K10r15 o k p f ac x137 ad q x59 x63 x52 before ab) rs) => hK _ _ ?_
            refine wl fun K hK => ?_
            refine wst 2 0 (.agg (K10c6 x154)) (K10c6 x154) l6 ow fun ru l7 (c8 : Mem ⟨w, h, noX⟩ b8 (K10e9 d e which l ao aq x_v20 ax) [⟨(K10c3 x59), none⟩, ⟨(K10c6 x154), none⟩, ⟨(K10c6 x154), some 24⟩] (K10r15 o k p f ac x137 ad q x59 x63 x52 before ab) ru) => hK _ _ ?_
            have l8 : Kn 259 (K10e9 d e which l ao aq x_v20 ax) ((tP 26 2 0) :: (K10m22 x_v20 s x141 u x52 before a x69 b x63 x59 a_l l c_l one)) h8 := l7.kp
            refine wf (wp_seq (wp_region_G (by kernel_rfl) ?_))
            replace c8 := c8.drew
            refine wpG_of_D [] (K10e9 d e which l ao aq x_v20 ax) [⟨(K10c3 x59), none⟩, ⟨(K10c6 x154), none⟩, ⟨(K10c6 x154), some 24⟩] ?_
            refine Dr [0, 1, 2] [2, 1, 0] ((tI 158 x154.number) :: (tS 156 a x69.1.length b) :: (tP 26 2 0) :: (K10m22 x_v20 s x141 u x52 before a x69 b x63 x59 a_l l c_l one)) l8 c8 fun t6 l9 => ?_
            obtain ⟨x159, ex159, ag⟩ := bnd ag
            refine Dl 3 fun K hK => ?_
            refine wc [.c (.slice a x69.1.length b), .c (.int .i64 x154.number)] l9 c8 (ref_Has_ok b4 c8.has x69.1 af x154.number ex159) fun vu si wm iy a8 bn => ?_
            replace hr_l := hr_l.mono a8
            replace af := af.mono a8
            replace ak := ak.mono a8
            replace ap := ap.mono a8
            replace b2 := b2.mono a8
            replace ah := ah.mono a8
            replace an := an.mono a8
            replace am := am.mono a8
            obtain rfl := iy
            refine ⟨.one (.c (.bool x159)), rfl, fun qw (ma : Kn 259 (K10e9 d e which l ao aq x_v20 ax) ((tB 159 x159) :: (tI 158 x154.number) :: (tS 156 a x69.1.length b) :: (tP 26 2 0) :: (K10m22 x_v20 s x141 u x52 before a x69 b x63 x59 a_l l c_l one)) qw) => hK _ _ bn.plOk ?_⟩
            refine Dr [4] (dn 4) ((tB 160 x159) :: (tP 26 2 0) :: (K10m22 x_v20 s x141 u x52 before a x69 b x63 x59 a_l l c_l one)) ma bn fun h9 gv => ?_
            rcases Bool.eq_false_or_eq_true (x159) with cy | cy
            ·
             rw [cy, cond_true] at ag
             have mc : Kn 259 (K10e9 d e which l ao aq x_v20 ax) ((tB 160 true) :: (tP 26 2 0) :: (K10m22 x_v20 s x141 u x52 before a x69 b x63 x59 a_l l c_l one)) h9 := (gv.setB 160 true (by rfl) cy).kp
             refine Dr [5, 6, 7, 9, 10, 11] [11, 10, 9, 7, 6, 5, 4, 3, 2, 1, 0] ((tB 167 (x154.kind.n == 1)) :: (tI 163 x154.number) :: (tS 161 s x141.1.length u) :: (tB 160 true) :: (tP 26 2 0) :: (K10m22 x_v20 s x141 u x52 before a x69 b x63 x59 a_l l c_l one)) mc bn fun t8 gw => ?_
             obtain ⟨x164, ex164, ag⟩ := bnd ag
             refine D_loud 8 rfl (by kernel_rfl) (by decide) (wantedS_sound gw (by kernel_rfl)) fun K hK => ?_
             refine wc [.c (.slice s x141.1.length u), .c (.int .i64 x154.number)] gw bn (ref_Has_ok b4 bn.has x141.1 b2 x154.number ex164) fun vv sj wn iz g7 a6 => ?_
             obtain rfl := iz
             refine ⟨.one (.c (.bool x164)), rfl, fun qx (md : Kn 259 (K10e9 d e which l ao aq x_v20 ax) ((tB 164 x164) :: (tB 167 (x154.kind.n == 1)) :: (tI 163 x154.number) :: (tS 161 s x141.1.length u) :: (tB 160 true) :: (tP 26 2 0) :: (K10m22 x_v20 s x141 u x52 before a x69 b x63 x59 a_l l c_l one)) qx) => hK _ _ a6.plOk ?_⟩
             refine Dr [12] [12, 8, 11, 10, 9, 7, 6, 5, 4, 3, 2, 1, 0] ((tB 168 (x154.kind.n == 1)) :: (tB 164 x164) :: (tB 160 true) :: (tP 26 2 0) :: (K10m22 x_v20 s x141 u x52 before a x69 b x63 x59 a_l l c_l one)) md a6 fun ia gx => ?_
             rcases Bool.eq_false_or_eq_true ((x154.kind.n == 1)) with cz | cz
             ·
              rw [cz, cond_true] at ag
              have me : Kn 259 (K10e9 d e which l ao aq x_v20 ax) ((tB 168 true) :: (tB 164 x164) :: (tB 160 true) :: (tP 26 2 0) :: (K10m22 x_v20 s x141 u x52 before a x69 b x63 x59 a_l l c_l one)) ia := (gx.setB 168 true (by rfl) cz).kp
              refine Dr [13, 14, 15, 16, 17, 18, 19] [19, 18, 17, 16, 15, 14, 13, 12, 8, 11, 10, 9, 7, 6, 5, 4, 3, 2, 1, 0] ((tB 175 (!(x164 == true))) :: (K10m22 x_v20 s x141 u x52 before a x69 b x63 x59 a_l l c_l one)) me a6 fun t9 ez => ?_
              refine wpD_end (by kernel_rfl) (wC ((!(x164 == true))) ez (fun ei => ?_) (fun ei => ?_))
              ·
               rw [ei, cond_true] at ag
               refine wp_seq (wp_region_from (Rk 0 1 [(tB 10 false)] ez a6 fun ua mf => ?_))
               refine wf (wp_ret ?_)
               obtain rfl := Option.some.inj ag
               obtain rfl := Option.some.inj H
               exact rt (.one (.c (.bool false))) mf a6 rfl
              ·
               rw [ei, cond_false] at ag
               refine wp_skip (wp_region_from (Rk 0 3 ((tI 25 (IntKind.i64.wrap (x_v20 + 1))) :: (tS 23 s x141.1.length u) :: (K10m17 x52 before a x69 b x63 x59 a_l l c_l one)) ez a6 fun ub mg => ?_))
               refine wf ?_
               exact Exists.intro b4 ⟨Nat.lt_succ_self _, Exists.intro (IntKind.i64.wrap (x_v20 + 1)) ⟨_, _, rfl, ((mg.keep [25, 23, 22, 14, 13, 12, 11, 0, 2] (by rfl)).cut 1 (by kernel_rfl)), (a6.cutPl 1 (by kernel_rfl)), (Heap.le_trans a3 (Heap.le_trans a8 g7)), ag⟩⟩
             ·
              rw [cz, cond_false] at ag
              have mh : Kn 259 (K10e9 d e which l ao aq x_v20 ax) ((tB 168 false) :: (tB 164 x164) :: (tB 160 true) :: (tP 26 2 0) :: (K10m22 x_v20 s x141 u x52 before a x69 b x63 x59 a_l l c_l one)) ia := (gx.setB 168 false (by rfl) cz).kp
              refine Dr [13, 14, 15, 16, 17, 18, 19] [19, 18, 17, 16, 15, 14, 13, 12, 8, 11, 10, 9, 7, 6, 5, 4, 3, 2, 1, 0] ((tB 175 (!(x164 == (decide (x154.minute > (IntKind.i64.wrap (x52 - (Int.tmod (IntKind.i64.wrap before.n) (IntKind.i64.wrap (x52 + 1)))))))))) :: (K10m22 x_v20 s x141 u x52 before a x69 b x63 x59 a_l l c_l one)) mh a6 fun uc e1 => ?_
              refine wpD_end (by kernel_rfl) (wC ((!(x164 == (decide (x154.minute > (IntKind.i64.wrap (x52 - (Int.tmod (IntKind.i64.wrap before.n) (IntKind.i64.wrap (x52 + 1)))))))))) e1 (fun ej => ?_) (fun ej => ?_))
              ·
               rw [ej, cond_true] at ag
               refine wp_seq (wp_region_from (Rk 0 1 [(tB 10 false)] e1 a6 fun ud mi => ?_))
               refine wf (wp_ret ?_)
               obtain rfl := Option.some.inj ag
               obtain rfl := Option.some.inj H
               exact rt (.one (.c (.bool false))) mi a6 rfl
              ·
               rw [ej, cond_false] at ag
               refine wp_skip (wp_region_from (Rk 0 3 ((tI 25 (IntKind.i64.wrap (x_v20 + 1))) :: (tS 23 s x141.1.length u) :: (K10m17 x52 before a x69 b x63 x59 a_l l c_l one)) e1 a6 fun ue mj => ?_))
               refine wf ?_
               exact Exists.intro b4 ⟨Nat.lt_succ_self _, Exists.intro (IntKind.i64.wrap (x_v20 + 1)) ⟨_, _, rfl, ((mj.keep [25, 23, 22, 14, 13, 12, 11, 0, 2] (by rfl)).cut 1 (by kernel_rfl)), (a6.cutPl 1 (by kernel_rfl)), (Heap.le_trans a3 (Heap.le_trans a8 g7)), ag⟩⟩
            ·
             rw [cy, cond_false] at ag
             have ml : Kn 259 (K10e9 d e which l ao aq x_v20 ax) ((tB 160 false) :: (tP 26 2 0) :: (K10m22 x_v20 s x141 u x52 before a x69 b x63 x59 a_l l c_l one)) h9 := (gv.setB 160 false (by rfl) cy).kp
             refine Dr [5, 6, 7, 8, 9, 10, 11, 12, 13, 14, 15, 16, 17, 18, 19] (dn 19) ((tB 175 false) :: (K10m22 x_v20 s x141 u x52 before a x69 b x63 x59 a_l l c_l one)) ml bn fun uf gy => ?_
             refine wpD_end (by kernel_rfl) (wC false gy (fun hb => ?_) (fun hb => ?_))
             ·
              cases hb
             refine wp_skip (wp_region_from (Rk 0 3 ((tI 25 (IntKind.i64.wrap (x_v20 + 1))) :: (tS 23 s x141.1.length u) :: (K10m17 x52 before a x69 b x63 x59 a_l l c_l one)) gy bn fun ug mm => ?_))
             refine wf ?_
             exact Exists.intro b4 ⟨Nat.lt_succ_self _, Exists.intro (IntKind.i64.wrap (x_v20 + 1)) ⟨_, _, rfl, ((mm.keep [25, 23, 22, 14, 13, 12, 11, 0, 2] (by rfl)).cut 1 (by kernel_rfl)), (bn.cutPl 1 (by kernel_rfl)), (Heap.le_trans a3 a8), ag⟩⟩
           ·
            rw [eh, cond_false] at ag
            refine wp_exit ?_
            obtain rfl := Option.some.inj ag
            exact Exists.intro () ⟨_, _, rfl, ey.kp, d2, a3, rfl⟩
         ·
          rintro _ rx ⟨h1, fz, bw, rfl, mn, bp, bl, rfl⟩
          rw [Ex.bind_go] at H
          replace hr_l := hr_l.mono bl
          replace af := af.mono bl
          replace ak := ak.mono bl
          replace ap := ap.mono bl
          replace b2 := b2.mono bl
          replace ah := ah.mono bl
          replace an := an.mono bl
          replace am := am.mono bl
          refine wp_seq (wp_seq (wp_region_from (Rk 0 3 ((tB 178 (((x69.1.length : Nat) : Int) == 0)) :: (tS 23 s x141.1.length u) :: (K10m17 x52 before a x69 b x63 x59 a_l l c_l one)) mn bp fun uh e2 => ?_)))
          refine wf (wC ((((x69.1.length : Nat) : Int) == 0)) e2 (fun ek => ?_) (fun ek => ?_))
          ·
           rw [ek, cond_true] at H
           refine wp_seq ?_
           obtain ⟨hx, b6, H⟩ := bnd H
           refine wp_mid' (fun a' w' => ∃ (f1 : Array Value) (ea : Heap), a' = ⟨f1, []⟩ ∧ Kn 259 (K10e2 d e which l) [(tB 10 hx)] f1 ∧ Mem ⟨w, h, noX⟩ ea (K10e2 d e which l) [⟨(K10c3 x59), none⟩] (K10r15 o k p f ac x137 ad q x59 x63 x52 before ab) w' ∧ Heap.le bw ea) ?_ ?_
           ·
            refine wp_region_from (Rk 0 4 [(tB 182 (((x141.1.length : Nat) : Int) == 0))] e2 bp fun ib gz => ?_)
            rcases Bool.eq_false_or_eq_true ((((x141.1.length : Nat) : Int) == 0)) with c0 | c0
            ·
             rw [c0, cond_true] at b6
             have g0 : Kn 259 (K10e2 d e which l) [(tB 182 true)] ib := (gz.setB 182 true (by rfl) c0).kp
             obtain ⟨x183, ex183, b6⟩ := bnd b6
             refine wpFrom_loud _ rfl (wantedS_sound g0 (by kernel_rfl)) fun K hK => ?_
             refine wc [] g0 bp (law_wakes_ok n bp.has  ex183) fun vw sk wo i0 op hl => ?_
             obtain rfl := i0
             refine ⟨.one (.c (.bool x183)), rfl, fun qy (mo : Kn 259 (K10e2 d e which l) [(tB 183 x183), (tB 182 true)] qy) => hK _ _ ?_⟩
             refine Rk 5 2 [(tB 10 x183)] mo hl fun ui mp => ?_
             refine wf ?_
             obtain rfl := Option.some.inj b6
             exact Exists.intro _ ⟨_, rfl, mp.kp, hl, op⟩
            ·
             rw [c0, cond_false] at b6
             have mq : Kn 259 (K10e2 d e which l) [(tB 182 false)] ib := (gz.setB 182 false (by rfl) c0).kp
             refine Rk 4 3 [(tB 10 false)] mq bp fun uj mr => ?_
             refine wf ?_
             obtain rfl := Option.some.inj b6
             exact Exists.intro _ ⟨_, rfl, mr.kp, bp, (Heap.le_refl _)⟩
           ·
            rintro _ wp ⟨f1, ea, rfl, ms, ox, su⟩
            refine wp_ret ?_
            obtain rfl := Option.some.inj H
            exact rt (.one (.c (.bool hx))) ms ox rfl
          ·
           rw [ek, cond_false] at H
           refine wp_skip (wp_seq (wp_region_from (Rk 0 5 ((tI 189 ((x69.1.length : Nat) : Int)) :: (tI 187 (IntKind.i64.wrap one.n)) :: (tS 185 a x69.1.length b) :: (tI 22 (IntKind.i64.wrap (x52 - (Int.tmod (IntKind.i64.wrap before.n) (IntKind.i64.wrap (x52 + 1)))))) :: (K10m20 a x69 b x63 x59 x52 a_l l c_l)) e2 bp fun uk mt => ?_)))
           obtain ⟨x190, ex190, H⟩ := bnd H
           refine R_rem 5 mt rfl rfl (rfl) rfl (by decide) (by rfl) (by rfl) (nz_some ex190) fun qz (mu : Kn 259 (K10e2 d e which l) ((tI 190 (Int.tmod (IntKind.i64.wrap one.n) ((x69.1.length : Nat) : Int))) :: (tI 189 ((x69.1.length : Nat) : Int)) :: (tI 187 (IntKind.i64.wrap one.n)) :: (tS 185 a x69.1.length b) :: (tI 22 (IntKind.i64.wrap (x52 - (Int.tmod (IntKind.i64.wrap before.n) (IntKind.i64.wrap (x52 + 1)))))) :: (K10m20 a x69 b x63 x59 x52 a_l l c_l)) qz) => ?_
           obtain ⟨x191, ex191, H⟩ := bnd H
           obtain ⟨o2, pa, p1⟩ := idx_some ex191
           obtain ⟨g, m, r5, jf, pt, jr⟩ := af.get (by decide) p1
           obtain rfl := pt
           have fh : Mem ⟨w, h, noX⟩ bw (K10e12 d e which l g m one x69) (K10p14 x59 x191) (K10r15 o k p f ac x137 ad q x59 x63 x52 before ab) rx := bp.addPlc (cs := [.int .i64 x191]) (fun j c hj => jr j _ (map_get hj)) rfl (by kernel_rfl) (by kernel_rfl)
           refine R_index 6 (Int.tmod (IntKind.i64.wrap one.n) ((x69.1.length : Nat) : Int)) rfl rfl (rfl) rfl (by decide) mu (by rfl) (by rfl) (by rfl) jf (by rfl) o2 pa (by kernel_rfl) fun q0 (mv : Kn 259 (K10e12 d e which l g m one x69) ((tP 191 1 0) :: (tI 190 (Int.tmod (IntKind.i64.wrap one.n) ((x69.1.length : Nat) : Int))) :: (tI 189 ((x69.1.length : Nat) : Int)) :: (tI 187 (IntKind.i64.wrap one.n)) :: (tS 185 a x69.1.length b) :: (tI 22 (IntKind.i64.wrap (x52 - (Int.tmod (IntKind.i64.wrap before.n) (IntKind.i64.wrap (x52 + 1)))))) :: (K10m20 a x69 b x63 x59 x52 a_l l c_l)) q0) => ?_
           refine Rk 7 2 ((tI 27 x191) :: (tI 22 (IntKind.i64.wrap (x52 - (Int.tmod (IntKind.i64.wrap before.n) (IntKind.i64.wrap (x52 + 1)))))) :: (K10m20 a x69 b x63 x59 x52 a_l l c_l)) mv fh fun ul mw => ?_
           refine wf (wp_seq (wp_seq (wp_region_from (Rk 0 1 ((tI 28 0) :: (tI 27 x191) :: (tI 22 (IntKind.i64.wrap (x52 - (Int.tmod (IntKind.i64.wrap before.n) (IntKind.i64.wrap (x52 + 1)))))) :: (K10m20 a x69 b x63 x59 x52 a_l l c_l)) mw fh fun um mx => ?_))))
           refine wf ?_
           obtain ⟨ae, ga, H⟩ := bnd H
           refine wp_mid' (fun a' w' => ∃ (f2 : Array Value) (a2 : Heap), a' = ⟨f2, []⟩ ∧ Kn 259 (K10e12 d e which l g m one x69) ((tI 27 x191) :: (tI 22 ae) :: (K10m20 a x69 b x63 x59 x52 a_l l c_l)) f2 ∧ Mem ⟨w, h, noX⟩ a2 (K10e12 d e which l g m one x69) (K10p14 x59 x191) (K10r15 o k p f ac x137 ad q x59 x63 x52 before ab) w' ∧ Heap.le bw a2) ?_ ?_
           ·
            refine wp_block ?_
            refine wp_loop_n (fun p8 a' w' => ∃ (x_v30 : Int) (x_v31 : Int) (f3 : Array Value) (cq : Heap), a' = ⟨f3, []⟩ ∧ Kn 259 (K10e12 d e which l g m one x69) ((tI 28 x_v30) :: (tI 27 x191) :: (tI 22 x_v31) :: (K10m20 a x69 b x63 x59 x52 a_l l c_l)) f3 ∧ Mem ⟨w, h, noX⟩ cq (K10e12 d e which l g m one x69) (K10p14 x59 x191) (K10r15 o k p f ac x137 ad q x59 x63 x52 before ab) w' ∧ Heap.le bw cq ∧ law_PitSigned_l3 p8 l minute x191 x_v30 x_v31 = some ae) n ?_ ?_
            ·
             exact Exists.intro 0 ⟨(IntKind.i64.wrap (x52 - (Int.tmod (IntKind.i64.wrap before.n) (IntKind.i64.wrap (x52 + 1))))), _, _, rfl, mx.kp, fh, (Heap.le_refl _), ga⟩
            ·
             rintro d7 _ ih ⟨x_v30, x_v31, f3, cq, rfl, my, d3, dx, au⟩
             clear ga
             obtain _ | d7 := d7
             ·
              rw [law_PitSigned_l3] at au; cases au
             rw [law_PitSigned_l3] at au
             replace hr_l := hr_l.mono dx
             refine wp_seq (wp_seq (wp_region_from (Rk 0 4 ((tB 196 (decide (x_v30 < ((l.length : Nat) : Int)))) :: (tI 28 x_v30) :: (tI 27 x191) :: (tI 22 x_v31) :: (K10m20 a x69 b x63 x59 x52 a_l l c_l)) my d3 fun un e3 => ?_)))
             refine wf (wC (decide (x_v30 < ((l.length : Nat) : Int))) e3 (fun em => ?_) (fun em => ?_))
             ·
              rw [em, cond_true] at au
              refine wp_skip (wp_seq (wp_block (wp_seq (wp_region_from (Rk 0 2 ((tI 200 x_v30) :: (tS 199 a_l l.length c_l) :: (tI 28 x_v30) :: (tI 27 x191) :: (tI 22 x_v31) :: (K10m20 a x69 b x63 x59 x52 a_l l c_l)) e3 d3 fun uo mz => ?_)))))
              obtain ⟨x201, ex201, au⟩ := bnd au
              obtain ⟨o3, pb, p2⟩ := idx_some ex201
              obtain ⟨dj, d9, r6, jg, pu, js⟩ := hr_l.get (by decide) p2
              obtain ⟨_, _, rfl, rfl, ⟨_, _, rfl, rfl, ⟨_, _, rfl, rfl, ⟨_, _, rfl, rfl, ⟨_, _, rfl, rfl, rfl⟩⟩⟩⟩⟩ := pu
              have c9 : Mem ⟨w, h, noX⟩ cq [(d, e + (Int.tmod (IntKind.i64.wrap which.n) ((l.length : Nat) : Int) : Int).toNat * 6), (g, m + (Int.tmod (IntKind.i64.wrap one.n) ((x69.1.length : Nat) : Int) : Int).toNat * 1), (dj, d9 + (x_v30 : Int).toNat * 6)] [⟨(K10c3 x59), none⟩, ⟨[.int .i64 x191], none⟩, ⟨(K10c7 x201), none⟩] (K10r15 o k p f ac x137 ad q x59 x63 x52 before ab) ih := d3.addPlc (cs := (K10c7 x201)) (fun j c hj => js j _ (map_get hj)) rfl (by kernel_rfl) (by kernel_rfl)
              refine R_index 2 (x_v30) rfl rfl (rfl) rfl (by decide) mz (by rfl) (by rfl) (by rfl) jg (by rfl) o3 pb (by kernel_rfl) fun q1 (m0 : Kn 259 [(d, e + (Int.tmod (IntKind.i64.wrap which.n) ((l.length : Nat) : Int) : Int).toNat * 6), (g, m + (Int.tmod (IntKind.i64.wrap one.n) ((x69.1.length : Nat) : Int) : Int).toNat * 1), (dj, d9 + (x_v30 : Int).toNat * 6)] ((tP 201 2 0) :: (tI 200 x_v30) :: (tS 199 a_l l.length c_l) :: (tI 28 x_v30) :: (tI 27 x191) :: (tI 22 x_v31) :: (K10m20 a x69 b x63 x59 x52 a_l l c_l)) q1) => ?_
              refine Rk 3 4 ((tB 205 (x201.number == x191)) :: (tI 28 x_v30) :: (tI 27 x191) :: (tI 22 x_v31) :: (K10m20 a x69 b x63 x59 x52 a_l l c_l)) m0 c9 fun uq e4 => ?_
              refine wf (wC ((x201.number == x191)) e4 (fun en => ?_) (fun en => ?_))
              ·
               rw [en, cond_true] at au
               refine wp_region_from (Rk 0 3 ((tI 208 x_v30) :: (tS 207 a_l l.length c_l) :: (tI 206 x_v31) :: (tI 28 x_v30) :: (tI 27 x191) :: (K10m20 a x69 b x63 x59 x52 a_l l c_l)) e4 c9 fun ut m1 => ?_)
               obtain ⟨x209, ex209, au⟩ := bnd au
               obtain ⟨o4, pc, p3⟩ := idx_some ex209
               obtain ⟨f7, hy, r7, jh, pv, jt⟩ := hr_l.get (by decide) p3
               obtain ⟨_, _, rfl, rfl, ⟨_, _, rfl, rfl, ⟨_, _, rfl, rfl, ⟨_, _, rfl, rfl, ⟨_, _, rfl, rfl, rfl⟩⟩⟩⟩⟩ := pv
               have fi : Mem ⟨w, h, noX⟩ cq [(d, e + (Int.tmod (IntKind.i64.wrap which.n) ((l.length : Nat) : Int) : Int).toNat * 6), (g, m + (Int.tmod (IntKind.i64.wrap one.n) ((x69.1.length : Nat) : Int) : Int).toNat * 1), (dj, d9 + (x_v30 : Int).toNat * 6), (f7, hy + (x_v30 : Int).toNat * 6)] [⟨(K10c3 x59), none⟩, ⟨[.int .i64 x191], none⟩, ⟨(K10c7 x201), none⟩, ⟨(K10c8 x209), none⟩] (K10r15 o k p f ac x137 ad q x59 x63 x52 before ab) ih := c9.addPlc (cs := (K10c8 x209)) (fun j c hj => jt j _ (map_get hj)) rfl (by kernel_rfl) (by kernel_rfl)
               refine R_index 3 (x_v30) rfl rfl (rfl) rfl (by decide) m1 (by rfl) (by rfl) (by rfl) jh (by rfl) o4 pc (by kernel_rfl) fun q3 (m3 : Kn 259 [(d, e + (Int.tmod (IntKind.i64.wrap which.n) ((l.length : Nat) : Int) : Int).toNat * 6), (g, m + (Int.tmod (IntKind.i64.wrap one.n) ((x69.1.length : Nat) : Int) : Int).toNat * 1), (dj, d9 + (x_v30 : Int).toNat * 6), (f7, hy + (x_v30 : Int).toNat * 6)] ((tP 209 3 0) :: (tI 208 x_v30) :: (tS 207 a_l l.length c_l) :: (tI 206 x_v31) :: (tI 28 x_v30) :: (tI 27 x191) :: (K10m20 a x69 b x63 x59 x52 a_l l c_l)) q3) => ?_
               refine Rk 4 4 ((tI 22 (if x209.minute > x_v31 then x209.minute else x_v31)) :: (tI 28 x_v30) :: (tI 27 x191) :: (K10m20 a x69 b x63 x59 x52 a_l l c_l)) m3 fi fun uu m4 => ?_
               refine wf (wp_region_from (Rk 0 3 ((tI 28 (IntKind.i64.wrap (x_v30 + 1))) :: (tI 22 (if x209.minute > x_v31 then x209.minute else x_v31)) :: (tI 27 x191) :: (K10m20 a x69 b x63 x59 x52 a_l l c_l)) m4 fi fun uv m5 => ?_))
               refine wf ?_
               exact Exists.intro d7 ⟨Nat.lt_succ_self _, Exists.intro (IntKind.i64.wrap (x_v30 + 1)) ⟨(if x209.minute > x_v31 then x209.minute else x_v31), _, _, rfl, ((m5.keep [28, 27, 22, 14, 13, 12, 11, 0] (by rfl)).cut 2 (by kernel_rfl)), (fi.cutPl 2 (by kernel_rfl)), dx, au⟩⟩
              ·
               rw [en, cond_false] at au
               refine wp_skip (wp_region_from (Rk 0 3 ((tI 28 (IntKind.i64.wrap (x_v30 + 1))) :: (tI 27 x191) :: (tI 22 x_v31) :: (K10m20 a x69 b x63 x59 x52 a_l l c_l)) e4 c9 fun uw m6 => ?_))
               refine wf ?_
               exact Exists.intro d7 ⟨Nat.lt_succ_self _, Exists.intro (IntKind.i64.wrap (x_v30 + 1)) ⟨x_v31, _, _, rfl, ((m6.keep [28, 27, 22, 14, 13, 12, 11, 0] (by rfl)).cut 2 (by kernel_rfl)), (c9.cutPl 2 (by kernel_rfl)), dx, au⟩⟩
             ·
              rw [em, cond_false] at au
              refine wp_exit ?_
              obtain rfl := Option.some.inj au
              exact Exists.intro _ ⟨_, rfl, e3.kp, d3, dx⟩
           ·
            rintro _ wr ⟨f2, a2, rfl, m7, oy, b0⟩
            replace hr_l := hr_l.mono b0
            refine wp_seq (wp_region_from (wl fun K hK => ?_))
            refine wS 24 6 [] m7 oy fun di q4 ry (m8 : Kn 259 (K10e12 d e which l g m one x69) ((tS 214 di 0 0) :: (tI 27 x191) :: (tI 22 ae) :: (K10m20 a x69 b x63 x59 x52 a_l l c_l)) q4) (fj : Mem ⟨w, h, noX⟩ a2 (K10e12 d e which l g m one x69) (K10p14 x59 x191) [⟨o, k.length, p, 24, 6, f, (f : List Value).length⟩, ⟨ac, x137.length, ad, 24, 6, ((([] : List Value) ++ q) ++ ([.int .i64 x59.bus, .int .i64 x63, .int .i64 (IntKind.i64.wrap (x52 - (Int.tmod (IntKind.i64.wrap before.n) (IntKind.i64.wrap (x52 + 1))))), .int .u8 3, .int .i64 0, .int .i64 0] : List Value)), (((([] : List Value) ++ q) ++ ([.int .i64 x59.bus, .int .i64 x63, .int .i64 (IntKind.i64.wrap (x52 - (Int.tmod (IntKind.i64.wrap before.n) (IntKind.i64.wrap (x52 + 1))))), .int .u8 3, .int .i64 0, .int .i64 0] : List Value)) : List Value).length⟩, ⟨ab, 1, 1, 24, 6, ([.int .i64 x59.bus, .int .i64 x63, .int .i64 (IntKind.i64.wrap (x52 - (Int.tmod (IntKind.i64.wrap before.n) (IntKind.i64.wrap (x52 + 1))))), .int .u8 3, .int .i64 0, .int .i64 0] : List Value), 0⟩, ⟨di, 0, 0, 24, 6, ([] : List Value), 0⟩] ry) => ?_
            have ju : Cells a2 ([] : List Card) ([] : List Value) := Cells.nil
            refine hK _ _ ?_
            refine Rk 1 1 [(tS 215 a_l l.length c_l), (tS 214 di 0 0), (tI 27 x191), (tI 22 ae), (tS 14 a x69.1.length b), (tI 13 x63), (tI 12 x59.bus), (tI 11 x52)] m8 fj fun uy na => ?_
            obtain ⟨aw, ds, pp, _⟩ := id hr_l
            obtain ⟨x216, ex216, H⟩ := bnd H
            obtain ⟨fr, oh⟩ := app_some ex216
            refine wl fun K hK => ?_
            refine wp_append 3 48 l.length _ (x216.length) _ aw na fj rfl rfl (by decide) rfl (by rfl) (by kernel_rfl) (by rfl) (by rfl) (Cells.len ds) (pp.cell fj.has ds.one) ds.one (by rw [fr]; simp <;> omega) (by rw [fr]; exact oh) (by decide) fun bs bu gg q5 rz j1 (nb : Kn 259 (K10e12 d e which l g m one x69) [(tS 216 bs x216.length bu), (tS 215 a_l l.length c_l), (tS 214 di 0 0), (tI 27 x191), (tI 22 ae), (tS 14 a x69.1.length b), (tI 13 x63), (tI 12 x59.bus), (tI 11 x52)] q5) (ho : Mem ⟨w, h, noX⟩ a2 (K10e12 d e which l g m one x69) (K10p14 x59 x191) [⟨o, k.length, p, 24, 6, f, (f : List Value).length⟩, ⟨ac, x137.length, ad, 24, 6, ((([] : List Value) ++ q) ++ ([.int .i64 x59.bus, .int .i64 x63, .int .i64 (IntKind.i64.wrap (x52 - (Int.tmod (IntKind.i64.wrap before.n) (IntKind.i64.wrap (x52 + 1))))), .int .u8 3, .int .i64 0, .int .i64 0] : List Value)), (((([] : List Value) ++ q) ++ ([.int .i64 x59.bus, .int .i64 x63, .int .i64 (IntKind.i64.wrap (x52 - (Int.tmod (IntKind.i64.wrap before.n) (IntKind.i64.wrap (x52 + 1))))), .int .u8 3, .int .i64 0, .int .i64 0] : List Value)) : List Value).length⟩, ⟨ab, 1, 1, 24, 6, ([.int .i64 x59.bus, .int .i64 x63, .int .i64 (IntKind.i64.wrap (x52 - (Int.tmod (IntKind.i64.wrap before.n) (IntKind.i64.wrap (x52 + 1))))), .int .u8 3, .int .i64 0, .int .i64 0] : List Value), 0⟩, ⟨bs, x216.length, bu, 24, 6, (([] : List Value) ++ aw), gg⟩] rz) => ?_
            have jv : Cells a2 x216 (([] : List Value) ++ aw) := by rw [fr]; exact Cells.append ju ds
            obtain rfl : gg = 0 := Nat.le_zero.1 j1
            refine hK _ _ ?_
            refine Rk 3 5 [(tA 221 (K10c1 x59 x63 ae x191)), (tS 216 bs x216.length bu), (tI 27 x191), (tS 14 a x69.1.length b), (tI 12 x59.bus), (tI 11 x52)] nb ho fun u0 nc => ?_
            refine wl fun K hK => ?_
            refine wS 24 6 (K10c1 x59 x63 ae x191) nc ho fun ay q6 r0 (nf : Kn 259 (K10e12 d e which l g m one x69) [(tS 222 ay 1 1), (tA 221 (K10c1 x59 x63 ae x191)), (tS 216 bs x216.length bu), (tI 27 x191), (tS 14 a x69.1.length b), (tI 12 x59.bus), (tI 11 x52)] q6) (hp : Mem ⟨w, h, noX⟩ a2 (K10e12 d e which l g m one x69) (K10p14 x59 x191) [⟨o, k.length, p, 24, 6, f, (f : List Value).length⟩, ⟨ac, x137.length, ad, 24, 6, ((([] : List Value) ++ q) ++ ([.int .i64 x59.bus, .int .i64 x63, .int .i64 (IntKind.i64.wrap (x52 - (Int.tmod (IntKind.i64.wrap before.n) (IntKind.i64.wrap (x52 + 1))))), .int .u8 3, .int .i64 0, .int .i64 0] : List Value)), (((([] : List Value) ++ q) ++ ([.int .i64 x59.bus, .int .i64 x63, .int .i64 (IntKind.i64.wrap (x52 - (Int.tmod (IntKind.i64.wrap before.n) (IntKind.i64.wrap (x52 + 1))))), .int .u8 3, .int .i64 0, .int .i64 0] : List Value)) : List Value).length⟩, ⟨ab, 1, 1, 24, 6, ([.int .i64 x59.bus, .int .i64 x63, .int .i64 (IntKind.i64.wrap (x52 - (Int.tmod (IntKind.i64.wrap before.n) (IntKind.i64.wrap (x52 + 1))))), .int .u8 3, .int .i64 0, .int .i64 0] : List Value), 0⟩, ⟨bs, x216.length, bu, 24, 6, (([] : List Value) ++ aw), 0⟩, ⟨ay, 1, 1, 24, 6, ([.int .i64 x59.bus, .int .i64 x63, .int .i64 ae, .int .u8 2, .int .i64 0, .int .i64 x191] : List Value), 0⟩] r0) => ?_
            have bg : Cells a2 ([(Card.mk x59.bus x63 ae (IK.mk 2) 0 x191)] : List Card) ([.int .i64 x59.bus, .int .i64 x63, .int .i64 ae, .int .u8 2, .int .i64 0, .int .i64 x191] : List Value) := ⟨_, _, rfl, ((rep_pair rep_int (rep_pair rep_int (rep_pair rep_int (rep_pair rep_ik (rep_pair rep_int rep_int))))) : rep a2 ((Card.mk x59.bus x63 ae (IK.mk 2) 0 x191) : Card) _), rfl⟩
            refine hK _ _ ?_
            obtain ⟨x223, ex223, H⟩ := bnd H
            obtain ⟨fs, oi⟩ := app_some ex223
            refine wl fun K hK => ?_
            refine wp_append 3 48 1 _ (x223.length) _ ([.int .i64 x59.bus, .int .i64 x63, .int .i64 ae, .int .u8 2, .int .i64 0, .int .i64 x191] : List Value) nf hp rfl rfl (by decide) rfl (by rfl) (by kernel_rfl) (by rfl) (by rfl) (Cells.len bg) (hp.rowCell (i := 4) rfl) bg.one (by rw [fs]; simp <;> omega) (by rw [fs]; exact oi) (by decide) fun az a0 gh q8 ii j2 (ng : Kn 259 (K10e12 d e which l g m one x69) [(tS 223 az x223.length a0), (tS 222 ay 1 1), (tA 221 (K10c1 x59 x63 ae x191)), (tS 216 bs x216.length bu), (tI 27 x191), (tS 14 a x69.1.length b), (tI 12 x59.bus), (tI 11 x52)] q8) (hq : Mem ⟨w, h, noX⟩ a2 (K10e12 d e which l g m one x69) (K10p14 x59 x191) [⟨o, k.length, p, 24, 6, f, (f : List Value).length⟩, ⟨ac, x137.length, ad, 24, 6, ((([] : List Value) ++ q) ++ ([.int .i64 x59.bus, .int .i64 x63, .int .i64 (IntKind.i64.wrap (x52 - (Int.tmod (IntKind.i64.wrap before.n) (IntKind.i64.wrap (x52 + 1))))), .int .u8 3, .int .i64 0, .int .i64 0] : List Value)), (((([] : List Value) ++ q) ++ ([.int .i64 x59.bus, .int .i64 x63, .int .i64 (IntKind.i64.wrap (x52 - (Int.tmod (IntKind.i64.wrap before.n) (IntKind.i64.wrap (x52 + 1))))), .int .u8 3, .int .i64 0, .int .i64 0] : List Value)) : List Value).length⟩, ⟨ab, 1, 1, 24, 6, ([.int .i64 x59.bus, .int .i64 x63, .int .i64 (IntKind.i64.wrap (x52 - (Int.tmod (IntKind.i64.wrap before.n) (IntKind.i64.wrap (x52 + 1))))), .int .u8 3, .int .i64 0, .int .i64 0] : List Value), 0⟩, ⟨az, x223.length, a0, 24, 6, ((([] : List Value) ++ aw) ++ ([.int .i64 x59.bus, .int .i64 x63, .int .i64 ae, .int .u8 2, .int .i64 0, .int .i64 x191] : List Value)), gh⟩, ⟨ay, 1, 1, 24, 6, ([.int .i64 x59.bus, .int .i64 x63, .int .i64 ae, .int .u8 2, .int .i64 0, .int .i64 x191] : List Value), 0⟩] ii) => ?_
            have bh : Cells a2 x223 ((([] : List Value) ++ aw) ++ ([.int .i64 x59.bus, .int .i64 x63, .int .i64 ae, .int .u8 2, .int .i64 0, .int .i64 x191] : List Value)) := by rw [fs]; exact Cells.append jv bg
            obtain rfl : gh = 0 := Nat.le_zero.1 j2
            refine hK _ _ ?_
            obtain ⟨gl, bm, pn, d4⟩ := hq.settle (i := 3) rfl
            replace bh := bh.mono bm
            replace d4 : Mem ⟨w, h, noX⟩ gl (K10e12 d e which l g m one x69) (K10p14 x59 x191) (K10r16 o k p f ac x137 ad q x59 x63 x52 before ab az x223 a0 aw ae x191 ay) ii := d4
            have b3 : RepS gl az a0 x223 := ⟨_, bh, pn, hq.rowCap (i := 3) rfl⟩
            obtain ⟨x224, ex224, H⟩ := bnd H
            refine wl fun K hK => ?_
            refine wc [.c (.slice az x223.length a0)] ng d4 (law_Cards_ok n d4.has x223 b3 ex224) fun vy sm ws i2 bi fk => ?_
            obtain ⟨ci, co, rfl, pk⟩ := i2
            refine ⟨.one (.c (.slice ci x224.length co)), rfl, fun q9 (ni : Kn 259 (K10e12 d e which l g m one x69) [(tS 224 ci x224.length co), (tS 223 az x223.length a0), (tS 222 ay 1 1), (tA 221 (K10c1 x59 x63 ae x191)), (tS 216 bs x216.length bu), (tI 27 x191), (tS 14 a x69.1.length b), (tI 12 x59.bus), (tI 11 x52)] q9) => hK _ _ ?_⟩
            refine Rk 11 2 [(tI 226 x52), (tI 225 x59.bus), (tS 224 ci x224.length co), (tI 27 x191), (tS 14 a x69.1.length b)] ni fk fun u1 nj => ?_
            obtain ⟨x227, ex227, H⟩ := bnd H
            refine wl fun K hK => ?_
            refine wc [.c (.slice ci x224.length co), .c (.int .i64 x59.bus), .c (.int .i64 x52)] nj fk (pit_Open_ok n fk.has x224 pk x59.bus x52 ex227) fun vz jb wt i3 bj bc => ?_
            replace af := af.mono (Heap.le_trans (Heap.le_trans (Heap.le_trans b0 bm) bi) bj)
            replace ak := ak.mono (Heap.le_trans (Heap.le_trans (Heap.le_trans b0 bm) bi) bj)
            replace ap := ap.mono (Heap.le_trans (Heap.le_trans (Heap.le_trans b0 bm) bi) bj)
            replace b3 := b3.mono (Heap.le_trans bi bj)
            replace ah := ah.mono (Heap.le_trans (Heap.le_trans (Heap.le_trans b0 bm) bi) bj)
            replace an := an.mono (Heap.le_trans (Heap.le_trans (Heap.le_trans b0 bm) bi) bj)
            replace am := am.mono (Heap.le_trans (Heap.le_trans (Heap.le_trans b0 bm) bi) bj)
            replace bh := bh.mono (Heap.le_trans bi bj)
            replace bg := bg.mono (Heap.le_trans (Heap.le_trans bm bi) bj)
            obtain ⟨_, _, rfl, ⟨y, aa, rfl, cd⟩, rfl⟩ := i3
            refine ⟨.tup [.c (.slice y x227.1.length aa), .c (.int .i64 x227.2)], rfl, fun ra (nk : Kn 259 (K10e12 d e which l g m one x69) [(227, .tup [.c (.slice y x227.1.length aa), .c (.int .i64 x227.2)]), (tI 226 x52), (tI 225 x59.bus), (tS 224 ci x224.length co), (tI 27 x191), (tS 14 a x69.1.length b)] ra) => hK _ _ ?_⟩
            refine Rk 14 5 [(tI 30 x227.2), (tS 29 y x227.1.length aa), (tI 27 x191), (tS 14 a x69.1.length b)] nk bc fun u2 nl => ?_
            refine wf (wp_seq (wp_seq ?_))
            obtain ⟨hz, bf, H⟩ := bnd H
            refine wp_mid' (fun a' w' => ∃ (f4 : Array Value) (cr : Heap), a' = ⟨f4, []⟩ ∧ Kn 259 (K10e12 d e which l g m one x69) [(tS 29 y x227.1.length aa), (tS 14 a x69.1.length b), (tB 244 hz)] f4 ∧ Mem ⟨w, h, noX⟩ cr (K10e12 d e which l g m one x69) (K10p14 x59 x191) (K10r16 o k p f ac x137 ad q x59 x63 x52 before ab az x223 a0 aw ae x191 ay) w' ∧ Heap.le jb cr) ?_ ?_
            ·
             refine wp_region_from (Rk 0 3 [(tB 232 (x227.2 != 0)), (tS 29 y x227.1.length aa), (tI 27 x191), (tS 14 a x69.1.length b)] nl bc fun ic g1 => ?_)
             rcases Bool.eq_false_or_eq_true ((x227.2 != 0)) with c1 | c1
             ·
              rw [c1, cond_true] at bf
              have nn : Kn 259 (K10e12 d e which l g m one x69) [(tB 232 true), (tS 29 y x227.1.length aa), (tI 27 x191), (tS 14 a x69.1.length b)] ic := (g1.setB 232 true (by rfl) c1).kp
              refine Rk 3 12 ((tB 244 true) :: (K10m23 y x227 aa a x69 b)) nn bc fun u3 np => ?_
              refine wf ?_
              obtain rfl := Option.some.inj bf
              exact Exists.intro _ ⟨_, rfl, np.kp, bc, (Heap.le_refl _)⟩
             ·
              rw [c1, cond_false] at bf
              have nq : Kn 259 (K10e12 d e which l g m one x69) [(tB 232 false), (tS 29 y x227.1.length aa), (tI 27 x191), (tS 14 a x69.1.length b)] ic := (g1.setB 232 false (by rfl) c1).kp
              refine Rk 3 8 [(tB 240 (((x227.1.length : Nat) : Int) != (IntKind.i64.wrap (((x69.1.length : Nat) : Int) - 1)))), (tS 29 y x227.1.length aa), (tI 27 x191), (tS 14 a x69.1.length b)] nq bc fun ie g2 => ?_
              rcases Bool.eq_false_or_eq_true ((((x227.1.length : Nat) : Int) != (IntKind.i64.wrap (((x69.1.length : Nat) : Int) - 1)))) with c2 | c2
              ·
               rw [c2, cond_true] at bf
               have nr : Kn 259 (K10e12 d e which l g m one x69) [(tB 240 true), (tS 29 y x227.1.length aa), (tI 27 x191), (tS 14 a x69.1.length b)] ie := (g2.setB 240 true (by rfl) c2).kp
               refine Rk 11 4 ((tB 244 true) :: (K10m23 y x227 aa a x69 b)) nr bc fun u4 ns => ?_
               refine wf ?_
               obtain rfl := Option.some.inj bf
               exact Exists.intro _ ⟨_, rfl, ns.kp, bc, (Heap.le_refl _)⟩
              ·
               rw [c2, cond_false] at bf
               have nt : Kn 259 (K10e12 d e which l g m one x69) [(tB 240 false), (tS 29 y x227.1.length aa), (tI 27 x191), (tS 14 a x69.1.length b)] ie := (g2.setB 240 false (by rfl) c2).kp
               refine Rk 11 2 ((tI 242 x191) :: (tS 241 y x227.1.length aa) :: (tB 240 false) :: (K10m23 y x227 aa a x69 b)) nt bc fun u5 g3 => ?_
               obtain ⟨x243, ex243, bf⟩ := bnd bf
               refine wpFrom_loud _ rfl (wantedS_sound g3 (by kernel_rfl)) fun K hK => ?_
               refine wc [.c (.slice y x227.1.length aa), .c (.int .i64 x191)] g3 bc (ref_Has_ok n bc.has x227.1 cd x191 ex243) fun v0 sn wu i4 oq hr => ?_
               obtain rfl := i4
               refine ⟨.one (.c (.bool x243)), rfl, fun rb (nu : Kn 259 (K10e12 d e which l g m one x69) ((tB 243 x243) :: (tI 242 x191) :: (tS 241 y x227.1.length aa) :: (tB 240 false) :: (K10m23 y x227 aa a x69 b)) rb) => hK _ _ ?_⟩
               refine Rk 14 1 ((tB 244 x243) :: (K10m23 y x227 aa a x69 b)) nu hr fun u6 nv => ?_
               refine wf ?_
               obtain rfl := Option.some.inj bf
               exact Exists.intro _ ⟨_, rfl, nv.kp, hr, oq⟩
            ·
             rintro _ wv ⟨f4, cr, rfl, e5, d5, bb⟩
             replace af := af.mono bb
             replace ak := ak.mono bb
             replace ap := ap.mono bb
             replace b3 := b3.mono bb
             replace cd := cd.mono bb
             replace ah := ah.mono bb
             replace an := an.mono bb
             replace am := am.mono bb
             replace bh := bh.mono bb
             replace bg := bg.mono bb
             refine wC (hz) e5 (fun eo => ?_) (fun eo => ?_)
             ·
              rw [eo, cond_true] at H
              refine wp_seq (wp_region_from (Rk 0 1 [(tB 10 false)] e5 d5 fun u7 nw => ?_))
              refine wf (wp_ret ?_)
              obtain rfl := Option.some.inj H
              exact rt (.one (.c (.bool false))) nw d5 rfl
             ·
              rw [eo, cond_false] at H
              refine wp_skip (wp_seq (wp_seq (wp_region_from (Rk 0 1 ((tI 31 0) :: (K10m23 y x227 aa a x69 b)) e5 d5 fun u9 nx => ?_))))
              refine wf ?_
              obtain ⟨h0, gb, H⟩ := bnd H
              refine wp_mid' (fun a' w' => ∃ (h2 : Unit) (f5 : Array Value) (eb : Heap), a' = ⟨f5, []⟩ ∧ Kn 259 (K10e12 d e which l g m one x69) [] f5 ∧ Mem ⟨w, h, noX⟩ eb (K10e12 d e which l g m one x69) (K10p14 x59 x191) (K10r16 o k p f ac x137 ad q x59 x63 x52 before ab az x223 a0 aw ae x191 ay) w' ∧ Heap.le cr eb ∧ h0 = .go h2) ?_ ?_
              ·
               refine wp_block ?_
               refine wp_loop_n (fun p9 a' w' => ∃ (x_v40 : Int) (f6 : Array Value) (dq : Heap), a' = ⟨f6, []⟩ ∧ Kn 259 (K10e12 d e which l g m one x69) ((tI 31 x_v40) :: (K10m23 y x227 aa a x69 b)) f6 ∧ Mem ⟨w, h, noX⟩ dq (K10e12 d e which l g m one x69) (K10p14 x59 x191) (K10r16 o k p f ac x137 ad q x59 x63 x52 before ab az x223 a0 aw ae x191 ay) w' ∧ Heap.le cr dq ∧ law_PitSigned_l4 p9 x69 x227 x_v40 = some h0) n ?_ ?_
               ·
                exact Exists.intro 0 ⟨_, _, rfl, nx.kp, d5, (Heap.le_refl _), gb⟩
               ·
                rintro d8 _ r1 ⟨x_v40, f6, dq, rfl, ny, d6, a4, av⟩
                clear gb
                obtain _ | d8 := d8
                ·
                 rw [law_PitSigned_l4] at av; cases av
                rw [law_PitSigned_l4] at av
                replace af := af.mono a4
                replace ak := ak.mono a4
                replace ap := ap.mono a4
                replace b3 := b3.mono a4
                replace cd := cd.mono a4
                replace ah := ah.mono a4
                replace an := an.mono a4
                replace am := am.mono a4
                replace bh := bh.mono a4
                replace bg := bg.mono a4
                refine wp_seq (wp_seq (wp_region_from (Rk 0 4 ((tB 248 (decide (x_v40 < ((x227.1.length : Nat) : Int)))) :: (tI 31 x_v40) :: (K10m23 y x227 aa a x69 b)) ny d6 fun va e6 => ?_)))
                refine wf (wC (decide (x_v40 < ((x227.1.length : Nat) : Int))) e6 (fun ep => ?_) (fun ep => ?_))
                ·
                 rw [ep, cond_true] at av
                 refine wp_skip (wp_seq (wp_block (wp_seq (wp_region_from (Rk 0 3 ((tI 253 x_v40) :: (tS 252 y x227.1.length aa) :: (tS 251 a x69.1.length b) :: (tI 31 x_v40) :: (K10m23 y x227 aa a x69 b)) e6 d6 fun vb nz => ?_)))))
                 obtain ⟨x254, ex254, av⟩ := bnd av
                 obtain ⟨o6, pe, p5⟩ := idx_some ex254
                 obtain ⟨cj, de, r9, jj, px, jx⟩ := cd.get (by decide) p5
                 obtain rfl := px
                 have fl : Mem ⟨w, h, noX⟩ dq (K10e13 d e which l g m one x69 cj de x_v40) [⟨(K10c3 x59), none⟩, ⟨[.int .i64 x191], none⟩, ⟨[.int .i64 x254], none⟩] (K10r16 o k p f ac x137 ad q x59 x63 x52 before ab az x223 a0 aw ae x191 ay) r1 := d6.addPlc (cs := [.int .i64 x254]) (fun j c hj => jx j _ (map_get hj)) rfl (by kernel_rfl) (by kernel_rfl)
                 refine R_index 3 (x_v40) rfl rfl (rfl) rfl (by decide) nz (by rfl) (by rfl) (by rfl) jj (by rfl) o6 pe (by kernel_rfl) fun rc (n0 : Kn 259 (K10e13 d e which l g m one x69 cj de x_v40) ((tP 254 2 0) :: (tI 253 x_v40) :: (tS 252 y x227.1.length aa) :: (tS 251 a x69.1.length b) :: (tI 31 x_v40) :: (K10m23 y x227 aa a x69 b)) rc) => ?_
                 refine Rk 4 1 ((tI 255 x254) :: (tS 251 a x69.1.length b) :: (tI 31 x_v40) :: (K10m23 y x227 aa a x69 b)) n0 fl fun vc n1 => ?_
                 obtain ⟨x256, ex256, av⟩ := bnd av
                 refine wl fun K hK => ?_
                 refine wc [.c (.slice a x69.1.length b), .c (.int .i64 x254)] n1 fl (ref_Has_ok d8 fl.has x69.1 af x254 ex256) fun v1 sp ww i5 os da => ?_
                 obtain rfl := i5
                 refine ⟨.one (.c (.bool x256)), rfl, fun rd (n2 : Kn 259 (K10e13 d e which l g m one x69 cj de x_v40) ((tB 256 x256) :: (tI 255 x254) :: (tS 251 a x69.1.length b) :: (tI 31 x_v40) :: (K10m23 y x227 aa a x69 b)) rd) => hK _ _ ?_⟩
                 refine Rk 6 1 ((tB 257 (!x256)) :: (tI 31 x_v40) :: (K10m23 y x227 aa a x69 b)) n2 da fun vd e7 => ?_
                 refine wf (wC ((!x256)) e7 (fun er => ?_) (fun er => ?_))
                 ·
                  rw [er, cond_true] at av
                  refine wp_seq (wp_region_from (Rk 0 1 [(tB 10 false)] e7 da fun ve n3 => ?_))
                  refine wf (wp_ret ?_)
                  obtain rfl := Option.some.inj av
                  obtain rfl := Option.some.inj H
                  exact rt (.one (.c (.bool false))) n3 da rfl
                 ·
                  rw [er, cond_false] at av
                  refine wp_skip (wp_region_from (Rk 0 3 ((tI 31 (IntKind.i64.wrap (x_v40 + 1))) :: (K10m23 y x227 aa a x69 b)) e7 da fun vf n4 => ?_))
                  refine wf ?_
                  exact Exists.intro d8 ⟨Nat.lt_succ_self _, Exists.intro (IntKind.i64.wrap (x_v40 + 1)) ⟨_, _, rfl, ((n4.keep [31, 29, 14] (by rfl)).cut 2 (by kernel_rfl)), (da.cutPl 2 (by kernel_rfl)), (Heap.le_trans a4 os), av⟩⟩
                ·
                 rw [ep, cond_false] at av
                 refine wp_exit ?_
                 obtain rfl := Option.some.inj av
                 exact Exists.intro () ⟨_, _, rfl, e6.kp, d6, a4, rfl⟩
              ·
               rintro _ wx ⟨h2, f5, eb, rfl, n5, hs, sw, rfl⟩
               rw [Ex.bind_go] at H
               refine wp_seq (wp_region_from ?_)
               obtain ⟨x258, ex258, H⟩ := bnd H
               refine wl fun K hK => ?_
               refine wc [] n5 hs (law_wakes_ok n hs.has  ex258) fun v2 sq wy i6 sx ht => ?_
               obtain rfl := i6
               refine ⟨.one (.c (.bool x258)), rfl, fun rf (n7 : Kn 259 (K10e12 d e which l g m one x69) [(tB 258 x258)] rf) => hK _ _ ?_⟩
               refine Rk 1 1 [(tB 10 x258)] n7 ht fun vg n8 => ?_
               refine wf (wp_ret ?_)
               obtain rfl := Option.some.inj H
               exact rt (.one (.c (.bool x258))) n8 ht rfl
end Go.Proofs.Ytkbphdjemgibnaa
