/- Each call computes its plain function. -/
import Derived.Test.YtkbphdjemgibnaaProg
import Derived.Test.YtkbphdjemgibnaaLaP0
import Derived.Test.YtkbphdjemgibnaaLaWA
import Derived.Test.YtkbphdjemgibnaaLaWR
import Derived.Test.YtkbphdjemgibnaaLaWS
import Derived.Test.YtkbphdjemgibnaaLaWW
set_option linter.all false
namespace Go.Proofs.Ytkbphdjemgibnaa
open Go Go.RowKit
open Rep (rep)
open KRep (kv)
open VRep (rv)
abbrev K4e1 (m o : Nat) (which : IK .u8) (l : List Card) : Env := [(m, o + (Int.tmod (IntKind.i64.wrap which.n) ((l.length : Nat) : Int) : Int).toNat * 6)]
abbrev K4c2 (x40 : Card) : List SC := [.int .i64 x40.bus, .int .i64 x40.number, .int .i64 x40.minute, .int .u8 x40.kind.n, .int .i64 x40.part, .int .i64 x40.sg]
abbrev K4c3 (x51 : Card) : List SC := [.int .i64 x51.bus, .int .i64 x51.number, .int .i64 x51.minute, .int .u8 x51.kind.n, .int .i64 x51.part, .int .i64 x51.sg]
abbrev K4c4 (x59 : Card) : List SC := [.int .i64 x59.bus, .int .i64 x59.number, .int .i64 x59.minute, .int .u8 x59.kind.n, .int .i64 x59.part, .int .i64 x59.sg]
abbrev K4c5 (x142 : Card) : List SC := [.int .i64 x142.bus, .int .i64 x142.number, .int .i64 x142.minute, .int .u8 x142.kind.n, .int .i64 x142.part, .int .i64 x142.sg]
abbrev K4e6 (m o : Nat) (which : IK .u8) (l : List Card) (an ao : Nat) (x_v11 : Int) (ap ar : Nat) : Env := [(m, o + (Int.tmod (IntKind.i64.wrap which.n) ((l.length : Nat) : Int) : Int).toNat * 6), (an, ao + (x_v11 : Int).toNat * 6), (ap, ar + (x_v11 : Int).toNat * 6)]
abbrev K4r7 (b : Option Addr) (a : List Card) (d : Nat) (ab : List Value) : List Row := [⟨b, a.length, d, 24, 6, ab, (ab : List Value).length⟩]
abbrev K4m8 (g : Option Addr) (x90 : (List Int) × Int) (k : Nat) (e : Option Addr) (x83 : (List Int) × Int) (f : Nat) (b : Option Addr) (a : List Card) (d : Nat) : TM := [(tS 17 g x90.1.length k), (tS 15 e x83.1.length f), (tS 9 b a.length d)]
abbrev K4m9 (x40 : Card) (x33 : Int) (a_l : Option Addr) (l : List Card) (c_l : Nat) : TM := [(tI 8 x40.bus), (tI 7 x33), (tS 0 a_l l.length c_l)]
abbrev K4m10 (e : Option Addr) (x83 : (List Int) × Int) (f : Nat) (s : Option Addr) (x76 : (List Int) × Int) (u : Nat) (p : Option Addr) (x68 : (List Int) × Int) (q : Nat) (b : Option Addr) (a : List Card) (d : Nat) : TM := [(tS 15 e x83.1.length f), (tS 13 s x76.1.length u), (tS 11 p x68.1.length q), (tS 9 b a.length d)]
abbrev K4m11 (x76 : (List Int) × Int) (s : Option Addr) (u : Nat) (x68 : (List Int) × Int) (p : Option Addr) (q : Nat) (b : Option Addr) (a : List Card) (d : Nat) (x33 : Int) : TM := [(tI 14 x76.2), (tS 13 s x76.1.length u), (tI 12 x68.2), (tS 11 p x68.1.length q), (tS 9 b a.length d), (tI 7 x33)]
abbrev K4m12 (a_l : Option Addr) (l : List Card) (c_l : Nat) (which : IK .u8) (minute : IK .u32) : TM := [(tS 0 a_l l.length c_l), (1, .one (.c (.int .u8 which.n))), (2, .one (.c (.int .u32 minute.n)))]
set_option maxRecDepth 100000 in
set_option maxHeartbeats 4000000 in
theorem law_PitLater_ok (n : Nat) {h : Heap} {w : World} (hh : Has h w) (l : List Card) {a_l : Option Addr} {c_l : Nat} (hr_l : RepS h a_l c_l l) (which : IK .u8) (minute : IK .u32) {r : Bool} (H : law_PitLater n l which minute = some r) :
  Calls Try.prog 4 #[.slice a_l l.length c_l, .int .u8 which.n, .int .u32 minute.n] w (Ret (fun h v => v = .bool r) h w) := by
 refine enter 162 [.c (.slice a_l l.length c_l), .c (.int .u8 which.n), .c (.int .u32 minute.n)] Try.func4 rfl rfl rfl rfl fun t hk => ?_
 have hm := Mem.begin h w hh
 unfold law_PitLater at H
 refine wp_seq (wp_region_from (Rk 0 1 (K4m12 a_l l c_l which minute) hk hm fun l7 gw => ?_))
 refine wf (wp_seq (wp_seq ?_))
 obtain ⟨dq, av, H⟩ := bnd H
 refine wp_mid' (fun a' w' => ∃ (dy : Array Value) (bz : Heap), a' = ⟨dy, []⟩ ∧ Kn 162 [] [(tS 0 a_l l.length c_l), (1, .one (.c (.int .u8 which.n))), (2, .one (.c (.int .u32 minute.n))), (tB 30 dq)] dy ∧ Mem ⟨w, h, noX⟩ bz [] [] [] w' ∧ Heap.le h bz) ?_ ?_
 ·
  refine wp_region_from (Rk 0 1 ((tS 23 a_l l.length c_l) :: (K4m12 a_l l c_l which minute)) gw hm fun nu i9 => ?_)
  obtain ⟨x24, ex24, av⟩ := bnd av
  refine wl fun K hK => ?_
  refine wc [.c (.slice a_l l.length c_l)] i9 hm (law_ready_ok n hm.has l hr_l ex24) fun oe l3 og fd en bp => ?_
  obtain rfl := fd
  refine ⟨.one (.c (.bool x24)), rfl, fun ko (gi : Kn 162 [] ((tB 24 x24) :: (tS 23 a_l l.length c_l) :: (K4m12 a_l l c_l which minute)) ko) => hK _ _ ?_⟩
  refine Rk 2 2 ((tB 26 (!x24)) :: (K4m12 a_l l c_l which minute)) gi bp fun e4 ea => ?_
  rcases Bool.eq_false_or_eq_true ((!x24)) with be | be
  ·
   rw [be, cond_true] at av
   have gv : Kn 162 [] ((tB 26 true) :: (K4m12 a_l l c_l which minute)) e4 := (ea.setB 26 true (by rfl) be).kp
   refine Rk 4 4 ((tB 30 true) :: (K4m12 a_l l c_l which minute)) gv bp fun mi gz => ?_
   refine wf ?_
   obtain rfl := Option.some.inj av
   exact Exists.intro _ ⟨_, rfl, gz.kp, bp, en⟩
  ·
   rw [be, cond_false] at av
   have g1 : Kn 162 [] ((tB 26 false) :: (K4m12 a_l l c_l which minute)) e4 := (ea.setB 26 false (by rfl) be).kp
   refine Rk 4 4 ((tB 30 (((l.length : Nat) : Int) == 0)) :: (K4m12 a_l l c_l which minute)) g1 bp fun mm g6 => ?_
   refine wf ?_
   obtain rfl := Option.some.inj av
   exact Exists.intro _ ⟨_, rfl, g6.kp, bp, en⟩
 ·
  rintro _ lf ⟨dy, bz, rfl, c1, aq, je⟩
  replace hr_l := hr_l.mono je
  refine wC (dq) c1 (fun cp => ?_) (fun cp => ?_)
  ·
   rw [cp, cond_true] at H
   refine wp_seq (wp_region_from ?_)
   obtain ⟨x31, ex31, H⟩ := bnd H
   refine wl fun K hK => ?_
   refine wc [] c1 aq (law_wakes_ok n aq.has  ex31) fun n8 ly os fn l4 eu => ?_
   obtain rfl := fn
   refine ⟨.one (.c (.bool x31)), rfl, fun k1 (h3 : Kn 162 [] [(tB 31 x31), (tS 0 a_l l.length c_l), (1, .one (.c (.int .u8 which.n))), (2, .one (.c (.int .u32 minute.n))), (tB 30 dq)] k1) => hK _ _ ?_⟩
   refine Rk 1 1 [(tB 6 x31)] h3 eu fun m6 h9 => ?_
   refine wf (wp_ret ?_)
   obtain rfl := Option.some.inj H
   exact rt (.one (.c (.bool x31))) h9 eu rfl
  ·
   rw [cp, cond_false] at H
   refine wp_skip (wp_seq (wp_region_G (by kernel_rfl) ?_))
   replace aq := aq.drew
   refine wpG_of_D [] [] [] ?_
   refine Dr [0, 2, 3, 4, 5, 6] [6, 5, 4, 3, 2, 0] [(tI 38 ((l.length : Nat) : Int)), (tI 36 (IntKind.i64.wrap which.n)), (tS 34 a_l l.length c_l), (32, .one (.c (.int .u32 minute.n))), (tS 0 a_l l.length c_l)] c1 aq fun m9 ie => ?_
   obtain ⟨x39, ex39, H⟩ := bnd H
   refine D_rem 7 (fun _ _ _ _ _ h => h) ie rfl rfl (rfl) rfl (by decide) (by kernel_rfl) (by kernel_rfl) aq.plOk (by rfl) (by rfl) (nz_some ex39) fun k3 (ij : Kn 162 [] [(tI 39 (Int.tmod (IntKind.i64.wrap which.n) ((l.length : Nat) : Int))), (tI 38 ((l.length : Nat) : Int)), (tI 36 (IntKind.i64.wrap which.n)), (tS 34 a_l l.length c_l), (32, .one (.c (.int .u32 minute.n))), (tS 0 a_l l.length c_l)] k3) => ?_
   obtain ⟨x40, ex40, H⟩ := bnd H
   obtain ⟨jq, jx, kg⟩ := idx_some ex40
   obtain ⟨m, o, lo, fy, j9, f7⟩ := hr_l.get (by decide) kg
   obtain ⟨_, _, rfl, rfl, ⟨_, _, rfl, rfl, ⟨_, _, rfl, rfl, ⟨_, _, rfl, rfl, ⟨_, _, rfl, rfl, rfl⟩⟩⟩⟩⟩ := j9
   have dk : Mem ⟨w, h, noX⟩ bz (K4e1 m o which l) [⟨(K4c2 x40), none⟩] [] (World.drew lf) := aq.addPlc (cs := (K4c2 x40)) (fun j c hj => f7 j _ (map_get hj)) rfl (by kernel_rfl) (by kernel_rfl)
   refine D_index 8 (Int.tmod (IntKind.i64.wrap which.n) ((l.length : Nat) : Int)) (K4c2 x40) (fun _ _ _ _ _ h => h) rfl rfl (rfl) rfl (by decide) (by kernel_rfl) (by kernel_rfl) ij aq.plOk (by rfl) (by rfl) (by rfl) fy (by rfl) jq jx (by kernel_rfl) fun k9 (i4 : Kn 162 (K4e1 m o which l) [(tP 40 0 0), (tI 39 (Int.tmod (IntKind.i64.wrap which.n) ((l.length : Nat) : Int))), (tI 38 ((l.length : Nat) : Int)), (tI 36 (IntKind.i64.wrap which.n)), (tS 34 a_l l.length c_l), (32, .one (.c (.int .u32 minute.n))), (tS 0 a_l l.length c_l)] k9) => ?_
   refine Dr [9, 10] [10, 9, 8, 7, 6, 5, 4, 3, 2, 0] [(tI 42 x40.bus), (32, .one (.c (.int .u32 minute.n))), (tS 0 a_l l.length c_l)] i4 dk fun nt i5 => ?_
   obtain ⟨x33, ex33, H⟩ := bnd H
   refine Dl 1 fun K hK => ?_
   refine wc [.c (.int .u32 minute.n)] i5 dk (law_minuted_ok n dk.has minute ex33) fun od b0 li fr ji bt => ?_
   replace hr_l := hr_l.mono ji
   obtain rfl := fr
   refine ⟨.one (.c (.int .i64 x33)), rfl, fun la (i6 : Kn 162 (K4e1 m o which l) [(tI 33 x33), (tI 42 x40.bus), (32, .one (.c (.int .u32 minute.n))), (tS 0 a_l l.length c_l)] la) => hK _ _ bt.plOk ?_⟩
   refine Dr [11, 12] [12, 11, 1, 10, 9, 8, 7, 6, 5, 4, 3, 2, 0] (K4m9 x40 x33 a_l l c_l) i6 bt fun nv i7 => ?_
   refine wpD_end (by kernel_rfl) (wp_seq (wp_region_from (Rk 0 1 ((tS 9 none 0 0) :: (K4m9 x40 x33 a_l l c_l)) i7 bt fun nw i8 => ?_)))
   refine wf (wp_seq (wp_seq (wp_region_from (Rk 0 1 ((tI 10 0) :: (tS 9 none 0 0) :: (K4m9 x40 x33 a_l l c_l)) i8 bt fun nx ja => ?_))))
   refine wf ?_
   have jj : Mem ⟨w, h, noX⟩ b0 (K4e1 m o which l) [⟨(K4c2 x40), none⟩] [⟨none, 0, 0, 24, 6, [], 0⟩] li := bt.nilRow 24 6
   have f8 : Cells b0 ([] : List Card) [] := Cells.nil
   obtain ⟨a, d7, H⟩ := bnd H
   refine wp_mid' (fun a' w' => ∃ (b : Option Addr) (d : Nat) (ab : List Value) (d1 : Array Value) (b1 : Heap), a' = ⟨d1, []⟩ ∧ Kn 162 (K4e1 m o which l) ((tS 9 b a.length d) :: (K4m9 x40 x33 a_l l c_l)) d1 ∧ Mem ⟨w, h, noX⟩ b1 (K4e1 m o which l) [⟨(K4c2 x40), none⟩] [⟨b, a.length, d, 24, 6, ab, 0⟩] w' ∧ Heap.le b0 b1 ∧ Cells b1 a ab) ?_ ?_
   ·
    refine wp_block ?_
    refine wp_loop_n (fun kk a' w' => ∃ (x_v10 : List Card) (x_v11 : Int) (z : Option Addr) (aa : Nat) (am : List Value) (d2 : Array Value) (ak : Heap), a' = ⟨d2, []⟩ ∧ Kn 162 (K4e1 m o which l) ((tI 10 x_v11) :: (tS 9 z x_v10.length aa) :: (K4m9 x40 x33 a_l l c_l)) d2 ∧ Mem ⟨w, h, noX⟩ ak (K4e1 m o which l) [⟨(K4c2 x40), none⟩] [⟨z, x_v10.length, aa, 24, 6, am, 0⟩] w' ∧ Heap.le b0 ak ∧ Cells ak x_v10 am ∧ law_PitLater_l1 kk l minute x33 x_v10 x_v11 = some a) n ?_ ?_
    ·
     exact Exists.intro ([] : List Card) ⟨0, none, 0, ([]), _, _, rfl, ja.kp, jj, (Heap.le_refl _), f8, d7⟩
    ·
     rintro ci _ fc ⟨x_v10, x_v11, z, aa, am, d2, ak, rfl, jb, cf, b8, cz, ad⟩
     clear d7
     obtain _ | ci := ci
     ·
      rw [law_PitLater_l1] at ad; cases ad
     rw [law_PitLater_l1] at ad
     replace hr_l := hr_l.mono b8
     refine wp_seq (wp_seq (wp_region_from (Rk 0 4 ((tB 46 (decide (x_v11 < ((l.length : Nat) : Int)))) :: (tI 10 x_v11) :: (tS 9 z x_v10.length aa) :: (K4m9 x40 x33 a_l l c_l)) jb cf fun ny c8 => ?_)))
     refine wf (wC (decide (x_v11 < ((l.length : Nat) : Int))) c8 (fun cx => ?_) (fun cx => ?_))
     ·
      rw [cx, cond_true] at ad
      refine wp_skip (wp_seq (wp_block (wp_seq (wp_region_from (Rk 0 2 ((tI 50 x_v11) :: (tS 49 a_l l.length c_l) :: (tI 10 x_v11) :: (tS 9 z x_v10.length aa) :: (K4m9 x40 x33 a_l l c_l)) c8 cf fun nz ga => ?_)))))
      obtain ⟨x51, ex51, ad⟩ := bnd ad
      obtain ⟨jk, jr, ka⟩ := idx_some ex51
      obtain ⟨an, ao, lj, ft, j3, f0⟩ := hr_l.get (by decide) ka
      obtain ⟨_, _, rfl, rfl, ⟨_, _, rfl, rfl, ⟨_, _, rfl, rfl, ⟨_, _, rfl, rfl, ⟨_, _, rfl, rfl, rfl⟩⟩⟩⟩⟩ := j3
      have bo : Mem ⟨w, h, noX⟩ ak [(m, o + (Int.tmod (IntKind.i64.wrap which.n) ((l.length : Nat) : Int) : Int).toNat * 6), (an, ao + (x_v11 : Int).toNat * 6)] [⟨(K4c2 x40), none⟩, ⟨(K4c3 x51), none⟩] [⟨z, x_v10.length, aa, 24, 6, am, 0⟩] fc := cf.addPlc (cs := (K4c3 x51)) (fun j c hj => f0 j _ (map_get hj)) rfl (by kernel_rfl) (by kernel_rfl)
      refine R_index 2 (x_v11) rfl rfl (rfl) rfl (by decide) ga (by rfl) (by rfl) (by rfl) ft (by rfl) jk jr (by kernel_rfl) fun kl (gb : Kn 162 [(m, o + (Int.tmod (IntKind.i64.wrap which.n) ((l.length : Nat) : Int) : Int).toNat * 6), (an, ao + (x_v11 : Int).toNat * 6)] ((tP 51 1 0) :: (tI 50 x_v11) :: (tS 49 a_l l.length c_l) :: (tI 10 x_v11) :: (tS 9 z x_v10.length aa) :: (K4m9 x40 x33 a_l l c_l)) kl) => ?_
      refine Rk 3 4 ((tB 55 (decide (x51.minute ≤ x33))) :: (tI 10 x_v11) :: (tS 9 z x_v10.length aa) :: (K4m9 x40 x33 a_l l c_l)) gb bo fun l8 c0 => ?_
      refine wf (wC (decide (x51.minute ≤ x33)) c0 (fun co => ?_) (fun co => ?_))
      ·
       rw [co, cond_true] at ad
       refine wp_region_from (Rk 0 3 ((tI 58 x_v11) :: (tS 57 a_l l.length c_l) :: (tS 56 z x_v10.length aa) :: (tI 10 x_v11) :: (K4m9 x40 x33 a_l l c_l)) c0 bo fun l9 gc => ?_)
       obtain ⟨x59, ex59, ad⟩ := bnd ad
       obtain ⟨jl, js, kb⟩ := idx_some ex59
       obtain ⟨ap, ar, lk, fu, j4, f1⟩ := hr_l.get (by decide) kb
       obtain ⟨_, _, rfl, rfl, ⟨_, _, rfl, rfl, ⟨_, _, rfl, rfl, ⟨_, _, rfl, rfl, ⟨_, _, rfl, rfl, rfl⟩⟩⟩⟩⟩ := j4
       have er : Mem ⟨w, h, noX⟩ ak (K4e6 m o which l an ao x_v11 ap ar) [⟨(K4c2 x40), none⟩, ⟨(K4c3 x51), none⟩, ⟨(K4c4 x59), none⟩] [⟨z, x_v10.length, aa, 24, 6, am, 0⟩] fc := bo.addPlc (cs := (K4c4 x59)) (fun j c hj => f1 j _ (map_get hj)) rfl (by kernel_rfl) (by kernel_rfl)
       refine R_index 3 (x_v11) rfl rfl (rfl) rfl (by decide) gc (by rfl) (by rfl) (by rfl) fu (by rfl) jl js (by kernel_rfl) fun km (gd : Kn 162 (K4e6 m o which l an ao x_v11 ap ar) ((tP 59 2 0) :: (tI 58 x_v11) :: (tS 57 a_l l.length c_l) :: (tS 56 z x_v10.length aa) :: (tI 10 x_v11) :: (K4m9 x40 x33 a_l l c_l)) km) => ?_
       refine Rk 4 1 ((tA 60 (K4c4 x59)) :: (tS 56 z x_v10.length aa) :: (tI 10 x_v11) :: (K4m9 x40 x33 a_l l c_l)) gd er fun ma gf => ?_
       refine wl fun K hK => ?_
       refine wS 24 6 (K4c4 x59) gf er fun bu kn lb (gg : Kn 162 (K4e6 m o which l an ao x_v11 ap ar) ((tS 61 bu 1 1) :: (tA 60 (K4c4 x59)) :: (tS 56 z x_v10.length aa) :: (tI 10 x_v11) :: (K4m9 x40 x33 a_l l c_l)) kn) (es : Mem ⟨w, h, noX⟩ ak (K4e6 m o which l an ao x_v11 ap ar) [⟨(K4c2 x40), none⟩, ⟨(K4c3 x51), none⟩, ⟨(K4c4 x59), none⟩] [⟨z, x_v10.length, aa, 24, 6, am, 0⟩, ⟨bu, 1, 1, 24, 6, ([.int .i64 x59.bus, .int .i64 x59.number, .int .i64 x59.minute, .int .u8 x59.kind.n, .int .i64 x59.part, .int .i64 x59.sg] : List Value), 0⟩] lb) => ?_
       have cy : Cells ak ([x59] : List Card) ([.int .i64 x59.bus, .int .i64 x59.number, .int .i64 x59.minute, .int .u8 x59.kind.n, .int .i64 x59.part, .int .i64 x59.sg] : List Value) := ⟨_, _, rfl, ((rep_pair rep_int (rep_pair rep_int (rep_pair rep_int (rep_pair rep_ik (rep_pair rep_int rep_int))))) : rep ak (x59 : Card) _), rfl⟩
       refine hK _ _ ?_
       obtain ⟨x62, ex62, ad⟩ := bnd ad
       obtain ⟨dp, jc⟩ := app_some ex62
       refine wl fun K hK => ?_
       refine wp_append 0 48 1 _ (x62.length) _ ([.int .i64 x59.bus, .int .i64 x59.number, .int .i64 x59.minute, .int .u8 x59.kind.n, .int .i64 x59.part, .int .i64 x59.sg] : List Value) gg es rfl rfl (by decide) rfl (by rfl) (by kernel_rfl) (by rfl) (by rfl) (Cells.len cy) (es.rowCell (i := 1) rfl) cy.one (by rw [dp]; simp <;> omega) (by rw [dp]; exact jc) (by decide) fun a0 a5 d8 kq lc f9 (gh : Kn 162 (K4e6 m o which l an ao x_v11 ap ar) ((tS 62 a0 x62.length a5) :: (tS 61 bu 1 1) :: (tA 60 (K4c4 x59)) :: (tS 56 z x_v10.length aa) :: (tI 10 x_v11) :: (K4m9 x40 x33 a_l l c_l)) kq) (da : Mem ⟨w, h, noX⟩ ak (K4e6 m o which l an ao x_v11 ap ar) [⟨(K4c2 x40), none⟩, ⟨(K4c3 x51), none⟩, ⟨(K4c4 x59), none⟩] [⟨a0, x62.length, a5, 24, 6, (am ++ ([.int .i64 x59.bus, .int .i64 x59.number, .int .i64 x59.minute, .int .u8 x59.kind.n, .int .i64 x59.part, .int .i64 x59.sg] : List Value)), d8⟩, ⟨bu, 1, 1, 24, 6, ([.int .i64 x59.bus, .int .i64 x59.number, .int .i64 x59.minute, .int .u8 x59.kind.n, .int .i64 x59.part, .int .i64 x59.sg] : List Value), 0⟩] lc) => ?_
       have f2 : Cells ak x62 (am ++ ([.int .i64 x59.bus, .int .i64 x59.number, .int .i64 x59.minute, .int .u8 x59.kind.n, .int .i64 x59.part, .int .i64 x59.sg] : List Value)) := by rw [dp]; exact Cells.append cz cy
       obtain rfl : d8 = 0 := Nat.le_zero.1 f9
       refine hK _ _ ?_
       refine Rk 7 1 ((tS 9 a0 x62.length a5) :: (tI 10 x_v11) :: (K4m9 x40 x33 a_l l c_l)) gh da fun mb gj => ?_
       refine wf (wp_region_from (Rk 0 3 ((tI 10 (IntKind.i64.wrap (x_v11 + 1))) :: (tS 9 a0 x62.length a5) :: (K4m9 x40 x33 a_l l c_l)) gj da fun mc gk => ?_))
       refine wf ?_
       exact Exists.intro ci ⟨Nat.lt_succ_self _, Exists.intro x62 ⟨(IntKind.i64.wrap (x_v11 + 1)), a0, a5, (am ++ ([.int .i64 x59.bus, .int .i64 x59.number, .int .i64 x59.minute, .int .u8 x59.kind.n, .int .i64 x59.part, .int .i64 x59.sg] : List Value)), _, _, rfl, ((gk.keep [10, 9, 8, 7, 0] (by rfl)).cut 1 (by kernel_rfl)), ((da.cutRw 1).cutPl 1 (by kernel_rfl)), b8, f2, ad⟩⟩
      ·
       rw [co, cond_false] at ad
       refine wp_skip (wp_region_from (Rk 0 3 ((tI 10 (IntKind.i64.wrap (x_v11 + 1))) :: (tS 9 z x_v10.length aa) :: (K4m9 x40 x33 a_l l c_l)) c0 bo fun md gl => ?_))
       refine wf ?_
       exact Exists.intro ci ⟨Nat.lt_succ_self _, Exists.intro x_v10 ⟨(IntKind.i64.wrap (x_v11 + 1)), z, aa, am, _, _, rfl, ((gl.keep [10, 9, 8, 7, 0] (by rfl)).cut 1 (by kernel_rfl)), (bo.cutPl 1 (by kernel_rfl)), b8, cz, ad⟩⟩
     ·
      rw [cx, cond_false] at ad
      refine wp_exit ?_
      obtain rfl := Option.some.inj ad
      exact Exists.intro z ⟨aa, am, _, _, rfl, c8.kp, cf, b8, cz⟩
   ·
    rintro _ oh ⟨b, d, ab, d1, b1, rfl, gm, db, jd, ag⟩
    replace hr_l := hr_l.mono jd
    refine wp_seq (wp_region_from (Rk 0 1 ((tS 64 a_l l.length c_l) :: (tS 9 b a.length d) :: (K4m9 x40 x33 a_l l c_l)) gm db fun me gn => ?_))
    obtain ⟨x65, ex65, H⟩ := bnd H
    refine wl fun K hK => ?_
    refine wc [.c (.slice a_l l.length c_l)] gn db (law_Cards_ok n db.has l hr_l ex65) fun n0 lq oi fe eo dc => ?_
    obtain ⟨a1, a6, rfl, jy⟩ := fe
    refine ⟨.one (.c (.slice a1 x65.length a6)), rfl, fun kr (gp : Kn 162 (K4e1 m o which l) ((tS 65 a1 x65.length a6) :: (tS 64 a_l l.length c_l) :: (tS 9 b a.length d) :: (K4m9 x40 x33 a_l l c_l)) kr) => hK _ _ ?_⟩
    refine Rk 2 2 ((tI 67 x33) :: (tI 66 x40.bus) :: (tS 65 a1 x65.length a6) :: (tS 9 b a.length d) :: (K4m9 x40 x33 a_l l c_l)) gp dc fun mf gq => ?_
    obtain ⟨x68, ex68, H⟩ := bnd H
    refine wl fun K hK => ?_
    refine wc [.c (.slice a1 x65.length a6), .c (.int .i64 x40.bus), .c (.int .i64 x33)] gq dc (pit_Open_ok n dc.has x65 jy x40.bus x33 ex68) fun n1 lr ld ff ep b9 => ?_
    obtain ⟨_, _, rfl, ⟨p, q, rfl, dl⟩, rfl⟩ := ff
    refine ⟨.tup [.c (.slice p x68.1.length q), .c (.int .i64 x68.2)], rfl, fun ks (gr : Kn 162 (K4e1 m o which l) ((68, .tup [.c (.slice p x68.1.length q), .c (.int .i64 x68.2)]) :: (tI 67 x33) :: (tI 66 x40.bus) :: (tS 65 a1 x65.length a6) :: (tS 9 b a.length d) :: (K4m9 x40 x33 a_l l c_l)) ks) => hK _ _ ?_⟩
    refine Rk 5 5 ((tI 12 x68.2) :: (tS 11 p x68.1.length q) :: (tS 9 b a.length d) :: (K4m9 x40 x33 a_l l c_l)) gr b9 fun mg gs => ?_
    refine wf (wp_seq (wp_region_from (Rk 0 1 ((tS 72 b a.length d) :: (tI 12 x68.2) :: (tS 11 p x68.1.length q) :: (tS 9 b a.length d) :: (K4m9 x40 x33 a_l l c_l)) gs b9 fun mh gu => ?_)))
    obtain ⟨d9, c9, j2, ca⟩ := b9.settle (i := 0) rfl
    replace ag := ag.mono (Heap.le_trans (Heap.le_trans eo ep) c9)
    replace ca : Mem ⟨w, h, noX⟩ d9 (K4e1 m o which l) [⟨(K4c2 x40), none⟩] (K4r7 b a d ab) ld := ca
    have y : RepS d9 b d a := ⟨_, ag, j2, b9.rowCap (i := 0) rfl⟩
    obtain ⟨x73, ex73, H⟩ := bnd H
    refine wl fun K hK => ?_
    refine wc [.c (.slice b a.length d)] gu ca (law_Cards_ok n ca.has a y ex73) fun n2 ls oj fg b2 dd => ?_
    obtain ⟨a2, a7, rfl, jz⟩ := fg
    refine ⟨.one (.c (.slice a2 x73.length a7)), rfl, fun kt (gx : Kn 162 (K4e1 m o which l) ((tS 73 a2 x73.length a7) :: (tS 72 b a.length d) :: (tI 12 x68.2) :: (tS 11 p x68.1.length q) :: (tS 9 b a.length d) :: (K4m9 x40 x33 a_l l c_l)) kt) => hK _ _ ?_⟩
    refine Rk 2 2 [(tI 75 x33), (tI 74 x40.bus), (tS 73 a2 x73.length a7), (tI 12 x68.2), (tS 11 p x68.1.length q), (tS 9 b a.length d), (tI 7 x33), (tS 0 a_l l.length c_l)] gx dd fun mj gy => ?_
    obtain ⟨x76, ex76, H⟩ := bnd H
    refine wl fun K hK => ?_
    refine wc [.c (.slice a2 x73.length a7), .c (.int .i64 x40.bus), .c (.int .i64 x33)] gy dd (pit_Open_ok n dd.has x73 jz x40.bus x33 ex76) fun n3 lu ok fh b3 cb => ?_
    replace hr_l := hr_l.mono (Heap.le_trans (Heap.le_trans (Heap.le_trans (Heap.le_trans eo ep) c9) b2) b3)
    obtain ⟨_, _, rfl, ⟨s, u, rfl, dm⟩, rfl⟩ := fh
    refine ⟨.tup [.c (.slice s x76.1.length u), .c (.int .i64 x76.2)], rfl, fun ku (g0 : Kn 162 (K4e1 m o which l) [(76, .tup [.c (.slice s x76.1.length u), .c (.int .i64 x76.2)]), (tI 75 x33), (tI 74 x40.bus), (tS 73 a2 x73.length a7), (tI 12 x68.2), (tS 11 p x68.1.length q), (tS 9 b a.length d), (tI 7 x33), (tS 0 a_l l.length c_l)] ku) => hK _ _ ?_⟩
    refine Rk 5 5 [(tI 14 x76.2), (tS 13 s x76.1.length u), (tI 12 x68.2), (tS 11 p x68.1.length q), (tS 9 b a.length d), (tI 7 x33), (tS 0 a_l l.length c_l)] g0 cb fun mk g2 => ?_
    refine wf (wp_seq (wp_region_from (Rk 0 1 ((tS 80 a_l l.length c_l) :: (K4m11 x76 s u x68 p q b a d x33)) g2 cb fun ml g3 => ?_)))
    obtain ⟨x81, ex81, H⟩ := bnd H
    refine wl fun K hK => ?_
    refine wc [.c (.slice a_l l.length c_l)] g3 cb (law_Cards_ok n cb.has l hr_l ex81) fun n4 lv ol fi b4 de => ?_
    obtain ⟨a3, a8, rfl, j0⟩ := fi
    refine ⟨.one (.c (.slice a3 x81.length a8)), rfl, fun kv (g4 : Kn 162 (K4e1 m o which l) ((tS 81 a3 x81.length a8) :: (tS 80 a_l l.length c_l) :: (K4m11 x76 s u x68 p q b a d x33)) kv) => hK _ _ ?_⟩
    refine Rk 2 1 ((tI 82 x33) :: (tS 81 a3 x81.length a8) :: (K4m11 x76 s u x68 p q b a d x33)) g4 de fun mn g5 => ?_
    obtain ⟨x83, ex83, H⟩ := bnd H
    refine wl fun K hK => ?_
    refine wc [.c (.slice a3 x81.length a8), .c (.int .i64 x33)] g5 de (pit_FitL_ok n de.has x81 j0 x33 ex83) fun n5 lw om fj b5 cc => ?_
    replace y := y.mono (Heap.le_trans (Heap.le_trans (Heap.le_trans b2 b3) b4) b5)
    obtain ⟨_, _, rfl, ⟨e, f, rfl, ac⟩, rfl⟩ := fj
    refine ⟨.tup [.c (.slice e x83.1.length f), .c (.int .i64 x83.2)], rfl, fun kw (g7 : Kn 162 (K4e1 m o which l) ((83, .tup [.c (.slice e x83.1.length f), .c (.int .i64 x83.2)]) :: (tI 82 x33) :: (tS 81 a3 x81.length a8) :: (K4m11 x76 s u x68 p q b a d x33)) kw) => hK _ _ ?_⟩
    refine Rk 4 5 ((tI 16 x83.2) :: (tS 15 e x83.1.length f) :: (K4m11 x76 s u x68 p q b a d x33)) g7 cc fun mo g8 => ?_
    refine wf (wp_seq (wp_region_from (Rk 0 1 ((tS 87 b a.length d) :: (tI 16 x83.2) :: (tS 15 e x83.1.length f) :: (K4m11 x76 s u x68 p q b a d x33)) g8 cc fun mp g9 => ?_)))
    obtain ⟨x88, ex88, H⟩ := bnd H
    refine wl fun K hK => ?_
    refine wc [.c (.slice b a.length d)] g9 cc (law_Cards_ok n cc.has a y ex88) fun n6 lx oo fk bl df => ?_
    obtain ⟨a4, a9, rfl, j1⟩ := fk
    refine ⟨.one (.c (.slice a4 x88.length a9)), rfl, fun kx (ha : Kn 162 (K4e1 m o which l) ((tS 88 a4 x88.length a9) :: (tS 87 b a.length d) :: (tI 16 x83.2) :: (tS 15 e x83.1.length f) :: (K4m11 x76 s u x68 p q b a d x33)) kx) => hK _ _ ?_⟩
    refine Rk 2 1 [(tI 89 x33), (tS 88 a4 x88.length a9), (tI 16 x83.2), (tS 15 e x83.1.length f), (tI 14 x76.2), (tS 13 s x76.1.length u), (tI 12 x68.2), (tS 11 p x68.1.length q), (tS 9 b a.length d)] ha df fun mq hc => ?_
    obtain ⟨x90, ex90, H⟩ := bnd H
    refine wl fun K hK => ?_
    refine wc [.c (.slice a4 x88.length a9), .c (.int .i64 x33)] hc df (pit_FitL_ok n df.has x88 j1 x33 ex90) fun n7 fs op fl bm ae => ?_
    replace dl := dl.mono (Heap.le_trans (Heap.le_trans (Heap.le_trans (Heap.le_trans (Heap.le_trans (Heap.le_trans c9 b2) b3) b4) b5) bl) bm)
    replace y := y.mono (Heap.le_trans bl bm)
    replace dm := dm.mono (Heap.le_trans (Heap.le_trans (Heap.le_trans b4 b5) bl) bm)
    replace ac := ac.mono (Heap.le_trans bl bm)
    replace ag := ag.mono (Heap.le_trans (Heap.le_trans (Heap.le_trans (Heap.le_trans (Heap.le_trans b2 b3) b4) b5) bl) bm)
    obtain ⟨_, _, rfl, ⟨g, k, rfl, aj⟩, rfl⟩ := fl
    refine ⟨.tup [.c (.slice g x90.1.length k), .c (.int .i64 x90.2)], rfl, fun ky (hd : Kn 162 (K4e1 m o which l) [(90, .tup [.c (.slice g x90.1.length k), .c (.int .i64 x90.2)]), (tI 89 x33), (tS 88 a4 x88.length a9), (tI 16 x83.2), (tS 15 e x83.1.length f), (tI 14 x76.2), (tS 13 s x76.1.length u), (tI 12 x68.2), (tS 11 p x68.1.length q), (tS 9 b a.length d)] ky) => hK _ _ ?_⟩
    refine Rk 4 5 [(tI 18 x90.2), (tS 17 g x90.1.length k), (tI 16 x83.2), (tS 15 e x83.1.length f), (tI 14 x76.2), (tS 13 s x76.1.length u), (tI 12 x68.2), (tS 11 p x68.1.length q), (tS 9 b a.length d)] hd ae fun mr he => ?_
    refine wf (wp_seq (wp_seq ?_))
    obtain ⟨ey, af, H⟩ := bnd H
    refine wp_mid' (fun a' w' => ∃ (dt : Array Value) (ba : Heap), a' = ⟨dt, []⟩ ∧ Kn 162 (K4e1 m o which l) [(tS 17 g x90.1.length k), (tS 15 e x83.1.length f), (tS 9 b a.length d), (tB 112 ey)] dt ∧ Mem ⟨w, h, noX⟩ ba (K4e1 m o which l) [⟨(K4c2 x40), none⟩] (K4r7 b a d ab) w' ∧ Heap.le fs ba) ?_ ?_
    ·
     refine wp_region_from (Rk 0 3 [(tB 95 (x68.2 != 0)), (tI 18 x90.2), (tS 17 g x90.1.length k), (tI 16 x83.2), (tS 15 e x83.1.length f), (tI 14 x76.2), (tS 13 s x76.1.length u), (tS 11 p x68.1.length q), (tS 9 b a.length d)] he ae fun e5 eb => ?_)
     rcases Bool.eq_false_or_eq_true ((x68.2 != 0)) with bf | bf
     ·
      rw [bf, cond_true] at af
      have hf : Kn 162 (K4e1 m o which l) [(tB 95 true), (tI 18 x90.2), (tS 17 g x90.1.length k), (tI 16 x83.2), (tS 15 e x83.1.length f), (tI 14 x76.2), (tS 13 s x76.1.length u), (tS 11 p x68.1.length q), (tS 9 b a.length d)] e5 := (eb.setB 95 true (by rfl) bf).kp
      refine Rk 3 17 ((tB 112 true) :: (K4m8 g x90 k e x83 f b a d)) hf ae fun ms hg => ?_
      refine wf ?_
      obtain rfl := Option.some.inj af
      exact Exists.intro _ ⟨_, rfl, hg.kp, ae, (Heap.le_refl _)⟩
     ·
      rw [bf, cond_false] at af
      have hi : Kn 162 (K4e1 m o which l) [(tB 95 false), (tI 18 x90.2), (tS 17 g x90.1.length k), (tI 16 x83.2), (tS 15 e x83.1.length f), (tI 14 x76.2), (tS 13 s x76.1.length u), (tS 11 p x68.1.length q), (tS 9 b a.length d)] e5 := (eb.setB 95 false (by rfl) bf).kp
      refine Rk 3 4 ((tB 99 (x76.2 != 0)) :: (tI 18 x90.2) :: (tS 17 g x90.1.length k) :: (tI 16 x83.2) :: (K4m10 e x83 f s x76 u p x68 q b a d)) hi ae fun e6 ec => ?_
      rcases Bool.eq_false_or_eq_true ((x76.2 != 0)) with bg | bg
      ·
       rw [bg, cond_true] at af
       have hl : Kn 162 (K4e1 m o which l) ((tB 99 true) :: (tI 18 x90.2) :: (tS 17 g x90.1.length k) :: (tI 16 x83.2) :: (K4m10 e x83 f s x76 u p x68 q b a d)) e6 := (ec.setB 99 true (by rfl) bg).kp
       refine Rk 7 13 ((tB 112 true) :: (K4m8 g x90 k e x83 f b a d)) hl ae fun mt hn => ?_
       refine wf ?_
       obtain rfl := Option.some.inj af
       exact Exists.intro _ ⟨_, rfl, hn.kp, ae, (Heap.le_refl _)⟩
      ·
       rw [bg, cond_false] at af
       have ho : Kn 162 (K4e1 m o which l) ((tB 99 false) :: (tI 18 x90.2) :: (tS 17 g x90.1.length k) :: (tI 16 x83.2) :: (K4m10 e x83 f s x76 u p x68 q b a d)) e6 := (ec.setB 99 false (by rfl) bg).kp
       refine Rk 7 4 ((tB 103 (x83.2 != 0)) :: (tI 18 x90.2) :: (tS 17 g x90.1.length k) :: (K4m10 e x83 f s x76 u p x68 q b a d)) ho ae fun e7 ed => ?_
       rcases Bool.eq_false_or_eq_true ((x83.2 != 0)) with bh | bh
       ·
        rw [bh, cond_true] at af
        have hp : Kn 162 (K4e1 m o which l) ((tB 103 true) :: (tI 18 x90.2) :: (tS 17 g x90.1.length k) :: (K4m10 e x83 f s x76 u p x68 q b a d)) e7 := (ed.setB 103 true (by rfl) bh).kp
        refine Rk 11 9 ((tB 112 true) :: (K4m8 g x90 k e x83 f b a d)) hp ae fun mu hq => ?_
        refine wf ?_
        obtain rfl := Option.some.inj af
        exact Exists.intro _ ⟨_, rfl, hq.kp, ae, (Heap.le_refl _)⟩
       ·
        rw [bh, cond_false] at af
        have hr : Kn 162 (K4e1 m o which l) ((tB 103 false) :: (tI 18 x90.2) :: (tS 17 g x90.1.length k) :: (K4m10 e x83 f s x76 u p x68 q b a d)) e7 := (ed.setB 103 false (by rfl) bh).kp
        refine Rk 11 4 ((tB 107 (x90.2 != 0)) :: (tS 17 g x90.1.length k) :: (K4m10 e x83 f s x76 u p x68 q b a d)) hr ae fun e8 ee => ?_
        rcases Bool.eq_false_or_eq_true ((x90.2 != 0)) with bi | bi
        ·
         rw [bi, cond_true] at af
         have hs : Kn 162 (K4e1 m o which l) ((tB 107 true) :: (tS 17 g x90.1.length k) :: (K4m10 e x83 f s x76 u p x68 q b a d)) e8 := (ee.setB 107 true (by rfl) bi).kp
         refine Rk 15 5 ((tB 112 true) :: (K4m8 g x90 k e x83 f b a d)) hs ae fun mv ht => ?_
         refine wf ?_
         obtain rfl := Option.some.inj af
         exact Exists.intro _ ⟨_, rfl, ht.kp, ae, (Heap.le_refl _)⟩
        ·
         rw [bi, cond_false] at af
         have hu : Kn 162 (K4e1 m o which l) ((tB 107 false) :: (tS 17 g x90.1.length k) :: (K4m10 e x83 f s x76 u p x68 q b a d)) e8 := (ee.setB 107 false (by rfl) bi).kp
         refine Rk 15 2 ((tS 109 s x76.1.length u) :: (tS 108 p x68.1.length q) :: (tB 107 false) :: (K4m8 g x90 k e x83 f b a d)) hu ae fun mw ef => ?_
         obtain ⟨x110, ex110, af⟩ := bnd af
         refine wpFrom_loud _ rfl (wantedS_sound ef (by kernel_rfl)) fun K hK => ?_
         refine wc [.c (.slice p x68.1.length q), .c (.slice s x76.1.length u)] ef ae (law_ints_ok n ae.has x68.1 dl x76.1 dm ex110) fun n9 lz oq fm jf et => ?_
         obtain rfl := fm
         refine ⟨.one (.c (.bool x110)), rfl, fun kz (hv : Kn 162 (K4e1 m o which l) ((tB 110 x110) :: (tS 109 s x76.1.length u) :: (tS 108 p x68.1.length q) :: (tB 107 false) :: (K4m8 g x90 k e x83 f b a d)) kz) => hK _ _ ?_⟩
         refine Rk 18 2 ((tB 112 (!x110)) :: (K4m8 g x90 k e x83 f b a d)) hv et fun mx hw => ?_
         refine wf ?_
         obtain rfl := Option.some.inj af
         exact Exists.intro _ ⟨_, rfl, hw.kp, et, jf⟩
    ·
     rintro _ ot ⟨dt, ba, rfl, c2, cd, b6⟩
     replace y := y.mono b6
     replace ac := ac.mono b6
     replace aj := aj.mono b6
     replace ag := ag.mono b6
     refine wC (ey) c2 (fun cq => ?_) (fun cq => ?_)
     ·
      rw [cq, cond_true] at H
      refine wp_seq (wp_region_from (Rk 0 1 [(tB 6 false)] c2 cd fun my hx => ?_))
      refine wf (wp_ret ?_)
      obtain rfl := Option.some.inj H
      exact rt (.one (.c (.bool false))) hx cd rfl
     ·
      rw [cq, cond_false] at H
      refine wp_skip (wp_seq (wp_seq (wp_region_from (Rk 0 1 ((tI 19 0) :: (K4m8 g x90 k e x83 f b a d)) c2 cd fun mz hy => ?_))))
      refine wf ?_
      obtain ⟨ez, d4, H⟩ := bnd H
      refine wp_mid' (fun a' w' => ∃ (e2 : Unit) (du : Array Value) (bb : Heap), a' = ⟨du, []⟩ ∧ Kn 162 (K4e1 m o which l) (K4m8 g x90 k e x83 f b a d) du ∧ Mem ⟨w, h, noX⟩ bb (K4e1 m o which l) [⟨(K4c2 x40), none⟩] (K4r7 b a d ab) w' ∧ Heap.le ba bb ∧ ez = .go e2) ?_ ?_
      ·
       refine wp_block ?_
       refine wp_loop_n (fun kh a' w' => ∃ (x_v20 : Int) (dv : Array Value) (bw : Heap), a' = ⟨dv, []⟩ ∧ Kn 162 (K4e1 m o which l) ((tI 19 x_v20) :: (K4m8 g x90 k e x83 f b a d)) dv ∧ Mem ⟨w, h, noX⟩ bw (K4e1 m o which l) [⟨(K4c2 x40), none⟩] (K4r7 b a d ab) w' ∧ Heap.le ba bw ∧ law_PitLater_l2 kh x83 x90 x_v20 = some ez) n ?_ ?_
       ·
        exact Exists.intro 0 ⟨_, _, rfl, hy.kp, cd, (Heap.le_refl _), d4⟩
       ·
        rintro cg _ lg ⟨x_v20, dv, bw, rfl, hz, ce, aw, ah⟩
        clear d4
        obtain _ | cg := cg
        ·
         rw [law_PitLater_l2] at ah; cases ah
        rw [law_PitLater_l2] at ah
        replace y := y.mono aw
        replace ac := ac.mono aw
        replace aj := aj.mono aw
        replace ag := ag.mono aw
        refine wp_seq (wp_seq (wp_region_from (Rk 0 4 ((tB 116 (decide (x_v20 < ((x90.1.length : Nat) : Int)))) :: (tI 19 x_v20) :: (K4m8 g x90 k e x83 f b a d)) hz ce fun m0 c3 => ?_)))
        refine wf (wC (decide (x_v20 < ((x90.1.length : Nat) : Int))) c3 (fun cr => ?_) (fun cr => ?_))
        ·
         rw [cr, cond_true] at ah
         refine wp_skip (wp_seq (wp_block (wp_seq (wp_region_from (Rk 0 3 ((tI 121 x_v20) :: (tS 120 g x90.1.length k) :: (tS 119 e x83.1.length f) :: (tI 19 x_v20) :: (K4m8 g x90 k e x83 f b a d)) c3 ce fun m1 h0 => ?_)))))
         obtain ⟨x122, ex122, ah⟩ := bnd ah
         obtain ⟨jm, jt, kc⟩ := idx_some ex122
         obtain ⟨cl, dr, ll, fv, j5, f3⟩ := aj.get (by decide) kc
         obtain rfl := j5
         have dg : Mem ⟨w, h, noX⟩ bw [(m, o + (Int.tmod (IntKind.i64.wrap which.n) ((l.length : Nat) : Int) : Int).toNat * 6), (cl, dr + (x_v20 : Int).toNat * 1)] [⟨(K4c2 x40), none⟩, ⟨[.int .i64 x122], none⟩] (K4r7 b a d ab) lg := ce.addPlc (cs := [.int .i64 x122]) (fun j c hj => f3 j _ (map_get hj)) rfl (by kernel_rfl) (by kernel_rfl)
         refine R_index 3 (x_v20) rfl rfl (rfl) rfl (by decide) h0 (by rfl) (by rfl) (by rfl) fv (by rfl) jm jt (by kernel_rfl) fun k0 (h1 : Kn 162 [(m, o + (Int.tmod (IntKind.i64.wrap which.n) ((l.length : Nat) : Int) : Int).toNat * 6), (cl, dr + (x_v20 : Int).toNat * 1)] ((tP 122 1 0) :: (tI 121 x_v20) :: (tS 120 g x90.1.length k) :: (tS 119 e x83.1.length f) :: (tI 19 x_v20) :: (K4m8 g x90 k e x83 f b a d)) k0) => ?_
         refine Rk 4 1 ((tI 123 x122) :: (tS 119 e x83.1.length f) :: (tI 19 x_v20) :: (K4m8 g x90 k e x83 f b a d)) h1 dg fun m2 h2 => ?_
         obtain ⟨x124, ex124, ah⟩ := bnd ah
         refine wl fun K hK => ?_
         refine wc [.c (.slice e x83.1.length f), .c (.int .i64 x122)] h2 dg (ref_Has_ok cg dg.has x83.1 ac x122 ex124) fun oa l0 ou fo jg bq => ?_
         obtain rfl := fo
         refine ⟨.one (.c (.bool x124)), rfl, fun k2 (h4 : Kn 162 [(m, o + (Int.tmod (IntKind.i64.wrap which.n) ((l.length : Nat) : Int) : Int).toNat * 6), (cl, dr + (x_v20 : Int).toNat * 1)] ((tB 124 x124) :: (tI 123 x122) :: (tS 119 e x83.1.length f) :: (tI 19 x_v20) :: (K4m8 g x90 k e x83 f b a d)) k2) => hK _ _ ?_⟩
         refine Rk 6 1 ((tB 125 (!x124)) :: (tI 19 x_v20) :: (K4m8 g x90 k e x83 f b a d)) h4 bq fun m3 c4 => ?_
         refine wf (wC ((!x124)) c4 (fun ct => ?_) (fun ct => ?_))
         ·
          rw [ct, cond_true] at ah
          refine wp_seq (wp_region_from (Rk 0 1 [(tB 6 false)] c4 bq fun m4 h5 => ?_))
          refine wf (wp_ret ?_)
          obtain rfl := Option.some.inj ah
          obtain rfl := Option.some.inj H
          exact rt (.one (.c (.bool false))) h5 bq rfl
         ·
          rw [ct, cond_false] at ah
          refine wp_skip (wp_region_from (Rk 0 3 ((tI 19 (IntKind.i64.wrap (x_v20 + 1))) :: (K4m8 g x90 k e x83 f b a d)) c4 bq fun m5 h6 => ?_))
          refine wf ?_
          exact Exists.intro cg ⟨Nat.lt_succ_self _, Exists.intro (IntKind.i64.wrap (x_v20 + 1)) ⟨_, _, rfl, ((h6.keep [19, 17, 15, 9] (by rfl)).cut 1 (by kernel_rfl)), (bq.cutPl 1 (by kernel_rfl)), (Heap.le_trans aw jg), ah⟩⟩
        ·
         rw [cr, cond_false] at ah
         refine wp_exit ?_
         obtain rfl := Option.some.inj ah
         exact Exists.intro () ⟨_, _, rfl, c3.kp, ce, aw, rfl⟩
      ·
       rintro _ ov ⟨e2, du, bb, rfl, h7, ev, b7, rfl⟩
       rw [Ex.bind_go] at H
       replace y := y.mono b7
       replace ac := ac.mono b7
       replace aj := aj.mono b7
       replace ag := ag.mono b7
       refine wp_seq (wp_seq (wp_region_from (Rk 0 1 ((tI 20 0) :: (K4m8 g x90 k e x83 f b a d)) h7 ev fun m7 h8 => ?_)))
       refine wf ?_
       obtain ⟨e0, d5, H⟩ := bnd H
       refine wp_mid' (fun a' w' => ∃ (e3 : Unit) (dw : Array Value) (cn : Heap), a' = ⟨dw, []⟩ ∧ Kn 162 (K4e1 m o which l) [] dw ∧ Mem ⟨w, h, noX⟩ cn (K4e1 m o which l) [⟨(K4c2 x40), none⟩] (K4r7 b a d ab) w' ∧ Heap.le bb cn ∧ e0 = .go e3) ?_ ?_
       ·
        refine wp_block ?_
        refine wp_loop_n (fun ki a' w' => ∃ (x_v30 : Int) (dx : Array Value) (bc : Heap), a' = ⟨dx, []⟩ ∧ Kn 162 (K4e1 m o which l) ((tI 20 x_v30) :: (K4m8 g x90 k e x83 f b a d)) dx ∧ Mem ⟨w, h, noX⟩ bc (K4e1 m o which l) [⟨(K4c2 x40), none⟩] (K4r7 b a d ab) w' ∧ Heap.le bb bc ∧ law_PitLater_l3 ki a x83 x90 x_v30 = some e0) n ?_ ?_
        ·
         exact Exists.intro 0 ⟨_, _, rfl, h8.kp, ev, (Heap.le_refl _), d5⟩
        ·
         rintro az _ ow ⟨x_v30, dx, bc, rfl, ia, br, au, x⟩
         clear d5
         obtain _ | az := az
         ·
          rw [law_PitLater_l3] at x; cases x
         rw [law_PitLater_l3] at x
         replace y := y.mono au
         replace ac := ac.mono au
         replace aj := aj.mono au
         replace ag := ag.mono au
         refine wp_seq (wp_seq (wp_region_from (Rk 0 4 ((tB 129 (decide (x_v30 < ((x83.1.length : Nat) : Int)))) :: (tI 20 x_v30) :: (K4m8 g x90 k e x83 f b a d)) ia br fun m8 c5 => ?_)))
         refine wf (wC (decide (x_v30 < ((x83.1.length : Nat) : Int))) c5 (fun cu => ?_) (fun cu => ?_))
         ·
          rw [cu, cond_true] at x
          refine wp_skip (wp_seq (wp_block (wp_seq (wp_region_from (Rk 0 1 ((tB 21 false) :: (tI 20 x_v30) :: (K4m8 g x90 k e x83 f b a d)) c5 br fun na ib => ?_)))))
          refine wf (wp_seq (wp_seq (wp_region_from (Rk 0 1 ((tI 22 0) :: (tB 21 false) :: (tI 20 x_v30) :: (K4m8 g x90 k e x83 f b a d)) ib br fun nb ic => ?_))))
          refine wf ?_
          obtain ⟨cj, d6, x⟩ := bnd x
          refine wp_mid' (fun a' w' => ∃ (dz : Array Value) (bx : Heap), a' = ⟨dz, []⟩ ∧ Kn 162 (K4e1 m o which l) ((tB 21 cj) :: (tI 20 x_v30) :: (K4m8 g x90 k e x83 f b a d)) dz ∧ Mem ⟨w, h, noX⟩ bx (K4e1 m o which l) [⟨(K4c2 x40), none⟩] (K4r7 b a d ab) w' ∧ Heap.le bc bx) ?_ ?_
          ·
           refine wp_block ?_
           refine wp_loop_n (fun kj a' w' => ∃ (x_v40 : Int) (x_v41 : Bool) (d0 : Array Value) (bd : Heap), a' = ⟨d0, []⟩ ∧ Kn 162 (K4e1 m o which l) ((tI 22 x_v40) :: (tB 21 x_v41) :: (tI 20 x_v30) :: (K4m8 g x90 k e x83 f b a d)) d0 ∧ Mem ⟨w, h, noX⟩ bd (K4e1 m o which l) [⟨(K4c2 x40), none⟩] (K4r7 b a d ab) w' ∧ Heap.le bc bd ∧ law_PitLater_l4 kj a x83 x_v30 x_v40 x_v41 = some cj) az ?_ ?_
           ·
            exact Exists.intro 0 ⟨false, _, _, rfl, ic.kp, br, (Heap.le_refl _), d6⟩
           ·
            rintro ch _ fb ⟨x_v40, x_v41, d0, bd, rfl, ig, al, bn, ai⟩
            clear d6
            obtain _ | ch := ch
            ·
             rw [law_PitLater_l4] at ai; cases ai
            rw [law_PitLater_l4] at ai
            replace y := y.mono bn
            replace ac := ac.mono bn
            refine wp_seq (wp_seq (wp_region_from (Rk 0 4 ((tB 135 (decide (x_v40 < ((a.length : Nat) : Int)))) :: (tI 22 x_v40) :: (tB 21 x_v41) :: (tI 20 x_v30) :: (K4m8 g x90 k e x83 f b a d)) ig al fun nc c6 => ?_)))
            refine wf (wC (decide (x_v40 < ((a.length : Nat) : Int))) c6 (fun cv => ?_) (fun cv => ?_))
            ·
             rw [cv, cond_true] at ai
             refine wp_skip (wp_seq (wp_block (wp_region_G (by kernel_rfl) ?_)))
             replace al := al.drew
             refine wpG_of_D [] (K4e1 m o which l) [⟨(K4c2 x40), none⟩] ?_
             refine Dr [0, 1] [1, 0] ((tB 139 x_v41) :: (tI 22 x_v40) :: (tI 20 x_v30) :: (K4m8 g x90 k e x83 f b a d)) c6 al fun e9 eg => ?_
             rcases Bool.eq_false_or_eq_true (x_v41) with bj | bj
             ·
              rw [bj, cond_true] at ai
              have ih : Kn 162 (K4e1 m o which l) ((tB 139 true) :: (tI 22 x_v40) :: (tI 20 x_v30) :: (K4m8 g x90 k e x83 f b a d)) e9 := (eg.setB 139 true (by rfl) bj).kp
              refine Dr [2, 3, 4, 5, 6, 7, 8, 9, 10, 11, 12, 13] (dn 13) ((tB 21 true) :: (tI 22 x_v40) :: (tI 20 x_v30) :: (K4m8 g x90 k e x83 f b a d)) ih al fun nd ii => ?_
              refine wpD_end (by kernel_rfl) (wp_region_from (Rk 0 3 ((tI 22 (IntKind.i64.wrap (x_v40 + 1))) :: (tB 21 true) :: (tI 20 x_v30) :: (K4m8 g x90 k e x83 f b a d)) ii al fun nf ik => ?_))
              refine wf ?_
              exact Exists.intro ch ⟨Nat.lt_succ_self _, Exists.intro (IntKind.i64.wrap (x_v40 + 1)) ⟨true, _, _, rfl, ik.kp, al, bn, ai⟩⟩
             ·
              rw [bj, cond_false] at ai
              have il : Kn 162 (K4e1 m o which l) ((tB 139 false) :: (tI 22 x_v40) :: (tI 20 x_v30) :: (K4m8 g x90 k e x83 f b a d)) e9 := (eg.setB 139 false (by rfl) bj).kp
              refine Dr [2, 3] (dn 3) ((tI 141 x_v40) :: (tS 140 b a.length d) :: (tB 139 false) :: (tI 22 x_v40) :: (tI 20 x_v30) :: (K4m8 g x90 k e x83 f b a d)) il al fun ng eh => ?_
              obtain ⟨x142, ex142, ai⟩ := bnd ai
              obtain ⟨jn, ju, kd⟩ := idx_some ex142
              obtain ⟨bv, ck, lm, fw, j6, f4⟩ := y.get (by decide) kd
              obtain ⟨_, _, rfl, rfl, ⟨_, _, rfl, rfl, ⟨_, _, rfl, rfl, ⟨_, _, rfl, rfl, ⟨_, _, rfl, rfl, rfl⟩⟩⟩⟩⟩ := j6
              have dh : Mem ⟨w, h, noX⟩ bd [(m, o + (Int.tmod (IntKind.i64.wrap which.n) ((l.length : Nat) : Int) : Int).toNat * 6), (bv, ck + (x_v40 : Int).toNat * 6)] [⟨(K4c2 x40), none⟩, ⟨(K4c5 x142), none⟩] (K4r7 b a d ab) (World.drew fb) := al.addPlc (cs := (K4c5 x142)) (fun j c hj => f4 j _ (map_get hj)) rfl (by kernel_rfl) (by kernel_rfl)
              refine D_index 4 (x_v40) (K4c5 x142) (fun _ _ _ _ _ h => h) rfl rfl (wantedS_sound eh (by kernel_rfl)) rfl (by decide) (by kernel_rfl) (by kernel_rfl) eh al.plOk (by rfl) (by rfl) (by rfl) fw (by rfl) jn ju (by kernel_rfl) fun k4 (im : Kn 162 [(m, o + (Int.tmod (IntKind.i64.wrap which.n) ((l.length : Nat) : Int) : Int).toNat * 6), (bv, ck + (x_v40 : Int).toNat * 6)] ((tP 142 1 0) :: (tI 141 x_v40) :: (tS 140 b a.length d) :: (tB 139 false) :: (tI 22 x_v40) :: (tI 20 x_v30) :: (K4m8 g x90 k e x83 f b a d)) k4) => ?_
              refine Dr [5, 6, 7, 8] (dn 8) ((tI 146 x_v30) :: (tS 145 e x83.1.length f) :: (tI 144 x142.bus) :: (tB 139 false) :: (tI 22 x_v40) :: (tI 20 x_v30) :: (K4m8 g x90 k e x83 f b a d)) im dh fun nh ei => ?_
              obtain ⟨x147, ex147, ai⟩ := bnd ai
              obtain ⟨jo, jv, ke⟩ := idx_some ex147
              obtain ⟨d3, e1, ln, fx, j7, f5⟩ := ac.get (by decide) ke
              obtain rfl := j7
              have di : Mem ⟨w, h, noX⟩ bd [(m, o + (Int.tmod (IntKind.i64.wrap which.n) ((l.length : Nat) : Int) : Int).toNat * 6), (bv, ck + (x_v40 : Int).toNat * 6), (d3, e1 + (x_v30 : Int).toNat * 1)] [⟨(K4c2 x40), none⟩, ⟨(K4c5 x142), none⟩, ⟨[.int .i64 x147], none⟩] (K4r7 b a d ab) (World.drew fb) := dh.addPlc (cs := [.int .i64 x147]) (fun j c hj => f5 j _ (map_get hj)) rfl (by kernel_rfl) (by kernel_rfl)
              refine D_index 9 (x_v30) [.int .i64 x147] (fun _ _ _ _ _ h => h) rfl rfl (wantedS_sound ei (by kernel_rfl)) rfl (by decide) (by kernel_rfl) (by kernel_rfl) ei dh.plOk (by rfl) (by rfl) (by rfl) fx (by rfl) jo jv (by kernel_rfl) fun k5 (io : Kn 162 [(m, o + (Int.tmod (IntKind.i64.wrap which.n) ((l.length : Nat) : Int) : Int).toNat * 6), (bv, ck + (x_v40 : Int).toNat * 6), (d3, e1 + (x_v30 : Int).toNat * 1)] ((tP 147 2 0) :: (tI 146 x_v30) :: (tS 145 e x83.1.length f) :: (tI 144 x142.bus) :: (tB 139 false) :: (tI 22 x_v40) :: (tI 20 x_v30) :: (K4m8 g x90 k e x83 f b a d)) k5) => ?_
              refine Dr [10, 11, 12, 13] (dn 13) ((tB 21 (x142.bus == x147)) :: (tI 22 x_v40) :: (tI 20 x_v30) :: (K4m8 g x90 k e x83 f b a d)) io di fun ni ip => ?_
              refine wpD_end (by kernel_rfl) (wp_region_from (Rk 0 3 ((tI 22 (IntKind.i64.wrap (x_v40 + 1))) :: (tB 21 (x142.bus == x147)) :: (tI 20 x_v30) :: (K4m8 g x90 k e x83 f b a d)) ip di fun nj iq => ?_))
              refine wf ?_
              exact Exists.intro ch ⟨Nat.lt_succ_self _, Exists.intro (IntKind.i64.wrap (x_v40 + 1)) ⟨(x142.bus == x147), _, _, rfl, ((iq.keep [22, 21, 20, 17, 15, 9] (by rfl)).cut 1 (by kernel_rfl)), (di.cutPl 1 (by kernel_rfl)), bn, ai⟩⟩
            ·
             rw [cv, cond_false] at ai
             refine wp_exit ?_
             obtain rfl := Option.some.inj ai
             exact Exists.intro _ ⟨_, rfl, c6.kp, al, bn⟩
          ·
           rintro _ lh ⟨dz, bx, rfl, ir, ay, ax⟩
           replace y := y.mono ax
           replace ac := ac.mono ax
           replace aj := aj.mono ax
           replace ag := ag.mono ax
           refine wp_seq (wp_region_from (Rk 0 2 ((tB 152 cj) :: (tI 20 x_v30) :: (K4m8 g x90 k e x83 f b a d)) ir ay fun fa ej => ?_))
           rcases Bool.eq_false_or_eq_true (cj) with bk | bk
           ·
            rw [bk, cond_true] at x
            have iu : Kn 162 (K4e1 m o which l) ((tB 152 true) :: (tI 20 x_v30) :: (K4m8 g x90 k e x83 f b a d)) fa := (ej.setB 152 true (by rfl) bk).kp
            refine Rk 2 3 ((tI 155 x_v30) :: (tS 154 e x83.1.length f) :: (tS 153 g x90.1.length k) :: (tB 152 true) :: (tI 20 x_v30) :: (K4m8 g x90 k e x83 f b a d)) iu ay fun nk ek => ?_
            obtain ⟨x156, ex156, x⟩ := bnd x
            obtain ⟨jp, jw, kf⟩ := idx_some ex156
            obtain ⟨cm, ds, lp, fz, j8, f6⟩ := ac.get (by decide) kf
            obtain rfl := j8
            have dj : Mem ⟨w, h, noX⟩ bx [(m, o + (Int.tmod (IntKind.i64.wrap which.n) ((l.length : Nat) : Int) : Int).toNat * 6), (cm, ds + (x_v30 : Int).toNat * 1)] [⟨(K4c2 x40), none⟩, ⟨[.int .i64 x156], none⟩] (K4r7 b a d ab) lh := ay.addPlc (cs := [.int .i64 x156]) (fun j c hj => f6 j _ (map_get hj)) rfl (by kernel_rfl) (by kernel_rfl)
            refine R_index 5 (x_v30) rfl rfl (wantedS_sound ek (by kernel_rfl)) rfl (by decide) ek (by rfl) (by rfl) (by rfl) fz (by rfl) jp jw (by kernel_rfl) fun k6 (iv : Kn 162 [(m, o + (Int.tmod (IntKind.i64.wrap which.n) ((l.length : Nat) : Int) : Int).toNat * 6), (cm, ds + (x_v30 : Int).toNat * 1)] ((tP 156 1 0) :: (tI 155 x_v30) :: (tS 154 e x83.1.length f) :: (tS 153 g x90.1.length k) :: (tB 152 true) :: (tI 20 x_v30) :: (K4m8 g x90 k e x83 f b a d)) k6) => ?_
            refine Rk 6 1 ((tI 157 x156) :: (tS 153 g x90.1.length k) :: (tB 152 true) :: (tI 20 x_v30) :: (K4m8 g x90 k e x83 f b a d)) iv dj fun nl el => ?_
            obtain ⟨x158, ex158, x⟩ := bnd x
            refine wpFrom_loud _ rfl (wantedS_sound el (by kernel_rfl)) fun K hK => ?_
            refine wc [.c (.slice g x90.1.length k), .c (.int .i64 x156)] el dj (ref_Has_ok az dj.has x90.1 aj x156 ex158) fun ob l1 ox fp jh bs => ?_
            obtain rfl := fp
            refine ⟨.one (.c (.bool x158)), rfl, fun k7 (iw : Kn 162 [(m, o + (Int.tmod (IntKind.i64.wrap which.n) ((l.length : Nat) : Int) : Int).toNat * 6), (cm, ds + (x_v30 : Int).toNat * 1)] ((tB 158 x158) :: (tI 157 x156) :: (tS 153 g x90.1.length k) :: (tB 152 true) :: (tI 20 x_v30) :: (K4m8 g x90 k e x83 f b a d)) k7) => hK _ _ ?_⟩
            refine Rk 8 2 ((tB 160 (!x158)) :: (tI 20 x_v30) :: (K4m8 g x90 k e x83 f b a d)) iw bs fun nm c7 => ?_
            refine wf (wC ((!x158)) c7 (fun cw => ?_) (fun cw => ?_))
            ·
             rw [cw, cond_true] at x
             refine wp_seq (wp_region_from (Rk 0 1 [(tB 6 false)] c7 bs fun nn ix => ?_))
             refine wf (wp_ret ?_)
             obtain rfl := Option.some.inj x
             obtain rfl := Option.some.inj H
             exact rt (.one (.c (.bool false))) ix bs rfl
            ·
             rw [cw, cond_false] at x
             refine wp_skip (wp_region_from (Rk 0 3 ((tI 20 (IntKind.i64.wrap (x_v30 + 1))) :: (K4m8 g x90 k e x83 f b a d)) c7 bs fun np iy => ?_))
             refine wf ?_
             exact Exists.intro az ⟨Nat.lt_succ_self _, Exists.intro (IntKind.i64.wrap (x_v30 + 1)) ⟨_, _, rfl, ((iy.keep [20, 17, 15, 9] (by rfl)).cut 1 (by kernel_rfl)), (bs.cutPl 1 (by kernel_rfl)), (Heap.le_trans au (Heap.le_trans ax jh)), x⟩⟩
           ·
            rw [bk, cond_false] at x
            have iz : Kn 162 (K4e1 m o which l) ((tB 152 false) :: (tI 20 x_v30) :: (K4m8 g x90 k e x83 f b a d)) fa := (ej.setB 152 false (by rfl) bk).kp
            refine Rk 2 8 ((tB 160 false) :: (tI 20 x_v30) :: (K4m8 g x90 k e x83 f b a d)) iz ay fun nq em => ?_
            refine wf (wC false em (fun hb => ?_) (fun hb => ?_))
            ·
             cases hb
            refine wp_skip (wp_region_from (Rk 0 3 ((tI 20 (IntKind.i64.wrap (x_v30 + 1))) :: (K4m8 g x90 k e x83 f b a d)) em ay fun nr i0 => ?_))
            refine wf ?_
            exact Exists.intro az ⟨Nat.lt_succ_self _, Exists.intro (IntKind.i64.wrap (x_v30 + 1)) ⟨_, _, rfl, i0.kp, ay, (Heap.le_trans au ax), x⟩⟩
         ·
          rw [cu, cond_false] at x
          refine wp_exit ?_
          obtain rfl := Option.some.inj x
          exact Exists.intro () ⟨_, _, rfl, c5.kp, br, au, rfl⟩
       ·
        rintro _ oy ⟨e3, dw, cn, rfl, i1, ew, l5, rfl⟩
        rw [Ex.bind_go] at H
        refine wp_seq (wp_region_from ?_)
        obtain ⟨x161, ex161, H⟩ := bnd H
        refine wl fun K hK => ?_
        refine wc [] i1 ew (law_wakes_ok n ew.has  ex161) fun oc l2 oz fq l6 ex => ?_
        obtain rfl := fq
        refine ⟨.one (.c (.bool x161)), rfl, fun k8 (i2 : Kn 162 (K4e1 m o which l) [(tB 161 x161)] k8) => hK _ _ ?_⟩
        refine Rk 1 1 [(tB 6 x161)] i2 ex fun ns i3 => ?_
        refine wf (wp_ret ?_)
        obtain rfl := Option.some.inj H
        exact rt (.one (.c (.bool x161))) i3 ex rfl
end Go.Proofs.Ytkbphdjemgibnaa
