/- Each call computes its plain function: printed by dec.py. -/
import Derived.Test.YtokchpjijlebiaaProg
import Derived.Test.YtokchpjijlebiaaPure
set_option linter.all false
namespace Go.Proofs.Ytokchpjijlebiaa
open Go Go.RowKit
open Rep (rep)
open KRep (kv)
open VRep (rv)
set_option maxRecDepth 100000 in
set_option maxHeartbeats 4000000 in
theorem slices_Clone_int_int_ok (n : Nat) {h : Heap} {w : World} (hh : Has h w) (s : List Int) {a_s : Option Addr} {c_s : Nat} (hr_s : RepS h a_s c_s s) {r : List Int} (H : slices_Clone_int_int n s = some r) :
  Calls Try.prog 87 #[.slice a_s s.length c_s] w (Ret (fun h v => ∃ a c, v = .slice a r.length c ∧ RepS h a c r) h w) := by
 refine enter 8 [.c (.slice a_s s.length c_s)] Try.func87 rfl rfl rfl rfl fun t hk => ?_
 have hm := Mem.begin h w hh
 unfold slices_Clone_int_int at H
 refine wp_seq (wp_region_from (R_runk 0 1 [0] [(tS 0 a_s s.length c_s)] hk hm.plOk (by kernel_rfl) fun ap ad => ?_))
 refine wpFrom_end (by decide) (wp_seq (wp_seq (wp_region_from (R_runk 0 2 [4, 0] [(tB 4 a_s.isNone), (tS 0 a_s s.length c_s)] ad hm.plOk (by kernel_rfl) fun ar k => ?_))))
 refine wpFrom_end (by decide) (wp_cond_sv (a_s.isNone) k (by kernel_rfl) (fun x => ?_) (fun x => ?_))
 ·
  obtain rfl := RepS.isNil hr_s (by decide) x
  replace H : some ([] : List Int) = some r := by simpa [app] using H
  refine wp_seq (wp_region_from (R_runk 0 1 [2] [(tS 2 none 0 0)] k hm.plOk (by kernel_rfl) fun av ag => ?_))
  refine wpFrom_end (by decide) (wp_ret ?_)
  obtain rfl := Option.some.inj H
  exact ret_ok (.one (.c (.slice none 0 0))) ag hm (by kernel_rfl) ⟨_, _, rfl, RepS.nil⟩
 ·
  refine wp_skip (wp_seq (wp_region_from (wpFrom_loud _ rfl (rfl) fun K hK => ?_)))
  refine wp_buildSlice 3 1 [] k hm rfl rfl (by decide) (by kernel_rfl) (by rfl) (by rfl) rfl (by decide) fun f an ao (ab : Kn 8 [] [(tS 5 f 0 0), (tB 4 a_s.isNone), (tS 0 a_s s.length c_s)] an) (l : Mem ⟨w, h, noX⟩ h [] [] [⟨f, 0, 0, 3, 1, ([] : List Value), 0⟩] ao) => ?_
  have z : Cells h ([] : List Int) ([] : List Value) := Cells.nil
  refine hK _ _ ?_
  refine R_runk 1 1 [6, 5] [(tS 6 a_s s.length c_s), (tS 5 f 0 0)] ab l.plOk (by kernel_rfl) fun aq ac => ?_
  obtain ⟨e, g, al, _⟩ := id hr_s
  obtain ⟨x7, ex7, H⟩ := bnd H
  obtain ⟨p, ah⟩ := app_some ex7
  refine wpFrom_loud _ rfl (rfl) fun K hK => ?_
  refine wp_append 0 8 s.length _ (x7.length) _ e ac l rfl rfl (by decide) rfl (by rfl) (by kernel_rfl) (by rfl) (by rfl) (Cells.len g) (al.cell l.has g.one) g.one (by rw [p]; simp) (by rw [p]; exact ah) (by decide) fun b d q am y aa (ae : Kn 8 [] [(7, .one (.c (.slice b x7.length d))), (6, .one (.c (.slice a_s s.length c_s))), (5, .one (.c (.slice f 0 0)))] am) (m : Mem ⟨w, h, noX⟩ h [] [] [⟨b, x7.length, d, 3, 1, (([] : List Value) ++ e), q⟩] y) => ?_
  have j : Cells h x7 (([] : List Value) ++ e) := by rw [p]; exact Cells.append z g
  obtain rfl : q = 0 := Nat.le_zero.1 aa
  refine hK _ _ ?_
  refine R_runk 3 1 [2] [(tS 2 b x7.length d)] ae m.plOk (by kernel_rfl) fun au af => ?_
  refine wpFrom_end (by decide) (wp_ret ?_)
  obtain ⟨u, ai, ak, o⟩ := m.settle (i := 0) rfl
  replace j := j.mono ai
  replace o : Mem ⟨w, h, noX⟩ u [] [] [⟨b, x7.length, d, 3, 1, (([] : List Value) ++ e), ((([] : List Value) ++ e) : List Value).length⟩] y := o
  have aj : RepS u b d x7 := ⟨_, j, ak, m.rowCap (i := 0) rfl⟩
  obtain rfl := Option.some.inj H
  exact ret_ok (.one (.c (.slice b x7.length d))) af o (by kernel_rfl) ⟨_, _, rfl, aj⟩

set_option maxRecDepth 100000 in
set_option maxHeartbeats 4000000 in
theorem slices_Clone_bool_bool_ok (n : Nat) {h : Heap} {w : World} (hh : Has h w) (s : List Bool) {a_s : Option Addr} {c_s : Nat} (hr_s : RepS h a_s c_s s) {r : List Bool} (H : slices_Clone_bool_bool n s = some r) :
  Calls Try.prog 88 #[.slice a_s s.length c_s] w (Ret (fun h v => ∃ a c, v = .slice a r.length c ∧ RepS h a c r) h w) := by
 refine enter 8 [.c (.slice a_s s.length c_s)] Try.func88 rfl rfl rfl rfl fun t hk => ?_
 have hm := Mem.begin h w hh
 unfold slices_Clone_bool_bool at H
 refine wp_seq (wp_region_from (R_runk 0 1 [0] [(tS 0 a_s s.length c_s)] hk hm.plOk (by kernel_rfl) fun ap ad => ?_))
 refine wpFrom_end (by decide) (wp_seq (wp_seq (wp_region_from (R_runk 0 2 [4, 0] [(tB 4 a_s.isNone), (tS 0 a_s s.length c_s)] ad hm.plOk (by kernel_rfl) fun ar k => ?_))))
 refine wpFrom_end (by decide) (wp_cond_sv (a_s.isNone) k (by kernel_rfl) (fun x => ?_) (fun x => ?_))
 ·
  obtain rfl := RepS.isNil hr_s (by decide) x
  replace H : some ([] : List Bool) = some r := by simpa [app] using H
  refine wp_seq (wp_region_from (R_runk 0 1 [2] [(tS 2 none 0 0)] k hm.plOk (by kernel_rfl) fun av ag => ?_))
  refine wpFrom_end (by decide) (wp_ret ?_)
  obtain rfl := Option.some.inj H
  exact ret_ok (.one (.c (.slice none 0 0))) ag hm (by kernel_rfl) ⟨_, _, rfl, RepS.nil⟩
 ·
  refine wp_skip (wp_seq (wp_region_from (wpFrom_loud _ rfl (rfl) fun K hK => ?_)))
  refine wp_buildSlice 4 1 [] k hm rfl rfl (by decide) (by kernel_rfl) (by rfl) (by rfl) rfl (by decide) fun f an ao (ab : Kn 8 [] [(tS 5 f 0 0), (tB 4 a_s.isNone), (tS 0 a_s s.length c_s)] an) (l : Mem ⟨w, h, noX⟩ h [] [] [⟨f, 0, 0, 4, 1, ([] : List Value), 0⟩] ao) => ?_
  have z : Cells h ([] : List Bool) ([] : List Value) := Cells.nil
  refine hK _ _ ?_
  refine R_runk 1 1 [6, 5] [(tS 6 a_s s.length c_s), (tS 5 f 0 0)] ab l.plOk (by kernel_rfl) fun aq ac => ?_
  obtain ⟨e, g, al, _⟩ := id hr_s
  obtain ⟨x7, ex7, H⟩ := bnd H
  obtain ⟨p, ah⟩ := app_some ex7
  refine wpFrom_loud _ rfl (rfl) fun K hK => ?_
  refine wp_append 0 1 s.length _ (x7.length) _ e ac l rfl rfl (by decide) rfl (by rfl) (by kernel_rfl) (by rfl) (by rfl) (Cells.len g) (al.cell l.has g.one) g.one (by rw [p]; simp) (by rw [p]; exact ah) (by decide) fun b d q am y aa (ae : Kn 8 [] [(7, .one (.c (.slice b x7.length d))), (6, .one (.c (.slice a_s s.length c_s))), (5, .one (.c (.slice f 0 0)))] am) (m : Mem ⟨w, h, noX⟩ h [] [] [⟨b, x7.length, d, 4, 1, (([] : List Value) ++ e), q⟩] y) => ?_
  have j : Cells h x7 (([] : List Value) ++ e) := by rw [p]; exact Cells.append z g
  obtain rfl : q = 0 := Nat.le_zero.1 aa
  refine hK _ _ ?_
  refine R_runk 3 1 [2] [(tS 2 b x7.length d)] ae m.plOk (by kernel_rfl) fun au af => ?_
  refine wpFrom_end (by decide) (wp_ret ?_)
  obtain ⟨u, ai, ak, o⟩ := m.settle (i := 0) rfl
  replace j := j.mono ai
  replace o : Mem ⟨w, h, noX⟩ u [] [] [⟨b, x7.length, d, 4, 1, (([] : List Value) ++ e), ((([] : List Value) ++ e) : List Value).length⟩] y := o
  have aj : RepS u b d x7 := ⟨_, j, ak, m.rowCap (i := 0) rfl⟩
  obtain rfl := Option.some.inj H
  exact ret_ok (.one (.c (.slice b x7.length d))) af o (by kernel_rfl) ⟨_, _, rfl, aj⟩

set_option maxRecDepth 100000 in
set_option maxHeartbeats 4000000 in
theorem slices_Max_int_int_ok (n : Nat) {h : Heap} {w : World} (hh : Has h w) (x : List Int) {a_x : Option Addr} {c_x : Nat} (hr_x : RepS h a_x c_x x) {r : Int} (H : slices_Max_int_int n x = some r) :
  Calls Try.prog 89 #[.slice a_x x.length c_x] w (Ret (fun h v => v = .int .i64 r) h w) := by
 refine enter 25 [.c (.slice a_x x.length c_x)] Try.func89 rfl rfl rfl rfl fun t hk => ?_
 have hm := Mem.begin h w hh
 unfold slices_Max_int_int at H
 refine wp_seq (wp_region_from (R_runk 0 1 [0] [(tS 0 a_x x.length c_x)] hk hm.plOk (by kernel_rfl) fun bb aj => ?_))
 refine wpFrom_end (by decide) (wp_seq (wp_seq (wp_region_from (R_runk 0 3 [7, 0] [(tB 7 (decide (((x.length : Nat) : Int) < 1))), (tS 0 a_x x.length c_x)] aj hm.plOk (by kernel_rfl) fun be ab => ?_))))
 refine wpFrom_end (by decide) (wp_cond_sv (decide (((x.length : Nat) : Int) < 1)) ab (by kernel_rfl) (fun l => ?_) (fun l => ?_))
 ·
  rw [l, cond_true] at H
  cases H
 ·
  rw [l, cond_false] at H
  refine wp_skip (wp_seq (wp_region_from (R_runk 0 1 [9, 0] [(tS 9 a_x x.length c_x), (tS 0 a_x x.length c_x)] ab hm.plOk (by kernel_rfl) fun bj av => ?_)))
  obtain ⟨x10, ex10, H⟩ := bnd H
  obtain ⟨ax, az, a3⟩ := idx_some ex10
  obtain ⟨b, d, a9, ae, a1, ag⟩ := hr_x.get (by decide) a3
  obtain rfl := a1
  have p : Mem ⟨w, h, noX⟩ h [(b, d + (0 : Int).toNat * 1)] [⟨[.int .i64 x10], none⟩] [] w := hm.addPlc (cs := [.int .i64 x10]) (fun j c hj => ag j _ (map_get hj)) rfl (by kernel_rfl) (by kernel_rfl)
  refine R_index 1 (0) rfl rfl (rfl) rfl (by decide) av (by rfl) (by rfl) (by rfl) ae (by rfl) ax az (by kernel_rfl) fun a6 (ai : Kn 25 [(b, d + (0 : Int).toNat * 1)] [(tP 10 0 0), (tS 9 a_x x.length c_x), (tS 0 a_x x.length c_x)] a6) => ?_
  refine R_runk 2 2 [3, 0] [(tI 3 x10), (tS 0 a_x x.length c_x)] ai p.plOk (by kernel_rfl) fun bc ak => ?_
  refine wpFrom_end (by decide) (wp_seq (wp_seq (wp_region_from (R_runk 0 1 [4, 3, 0] [(tI 4 1), (tI 3 x10), (tS 0 a_x x.length c_x)] ak p.plOk (by kernel_rfl) fun bd al => ?_))))
  refine wpFrom_end (by decide) ?_
  obtain ⟨g, aa, H⟩ := bnd H
  refine wp_mid' (fun a' w' => ∃ (u : Array Value) (i : Heap), a' = ⟨u, []⟩ ∧ Kn 25 [(b, d + (0 : Int).toNat * 1)] [(tI 3 g)] u ∧ Mem ⟨w, h, noX⟩ i [(b, d + (0 : Int).toNat * 1)] [⟨[.int .i64 x10], none⟩] [] w' ∧ Heap.le h i) ?_ ?_
  ·
   refine wp_block ?_
   refine wp_loop_n (fun a5 a' w' => ∃ (x_v10 : Int) (x_v11 : Int) (y : Array Value) (e : Heap), a' = ⟨y, []⟩ ∧ Kn 25 [(b, d + (0 : Int).toNat * 1)] [(tI 4 x_v10), (tI 3 x_v11), (tS 0 a_x x.length c_x)] y ∧ Mem ⟨w, h, noX⟩ e [(b, d + (0 : Int).toNat * 1)] [⟨[.int .i64 x10], none⟩] [] w' ∧ Heap.le h e ∧ slices_Max_int_int_l1 a5 x x_v10 x_v11 = some g) n ?_ ?_
   ·
    exact Exists.intro 1 ⟨x10, _, _, rfl, (al.keep [4, 3, 0] (by rfl)), p, (Heap.le_refl _), aa⟩
   ·
    rintro s _ a8 ⟨x_v10, x_v11, y, e, rfl, am, f, o, a⟩
    clear aa
    obtain _ | s := s
    ·
     rw [slices_Max_int_int_l1] at a; cases a
    rw [slices_Max_int_int_l1] at a
    replace hr_x := hr_x.mono o
    refine wp_seq (wp_seq (wp_region_from (R_runk 0 4 [15, 4, 3, 0] [(tB 15 (decide (x_v10 < ((x.length : Nat) : Int)))), (tI 4 x_v10), (tI 3 x_v11), (tS 0 a_x x.length c_x)] am f.plOk (by kernel_rfl) fun bf m => ?_)))
    refine wpFrom_end (by decide) (wp_cond_sv (decide (x_v10 < ((x.length : Nat) : Int))) m (by kernel_rfl) (fun k => ?_) (fun k => ?_))
    ·
     rw [k, cond_true] at a
     refine wp_skip (wp_seq (wp_block (wp_region_from (R_runk 0 3 [20, 19, 18, 4, 0] [(tI 20 x_v10), (tS 19 a_x x.length c_x), (tI 18 x_v11), (tI 4 x_v10), (tS 0 a_x x.length c_x)] m f.plOk (by kernel_rfl) fun bg an => ?_))))
     obtain ⟨x21, ex21, a⟩ := bnd a
     obtain ⟨ay, a0, a4⟩ := idx_some ex21
     obtain ⟨z, ad, ba, af, a2, ah⟩ := hr_x.get (by decide) a4
     obtain rfl := a2
     have q : Mem ⟨w, h, noX⟩ e [(b, d + (0 : Int).toNat * 1), (z, ad + (x_v10 : Int).toNat * 1)] [⟨[.int .i64 x10], none⟩, ⟨[.int .i64 x21], none⟩] [] a8 := f.addPlc (cs := [.int .i64 x21]) (fun j c hj => ah j _ (map_get hj)) rfl (by kernel_rfl) (by kernel_rfl)
     refine R_index 3 (x_v10) rfl rfl (rfl) rfl (by decide) an (by rfl) (by rfl) (by rfl) af (by rfl) ay a0 (by kernel_rfl) fun a7 (ao : Kn 25 [(b, d + (0 : Int).toNat * 1), (z, ad + (x_v10 : Int).toNat * 1)] [(tP 21 1 0), (tI 20 x_v10), (tS 19 a_x x.length c_x), (tI 18 x_v11), (tI 4 x_v10), (tS 0 a_x x.length c_x)] a7) => ?_
     refine R_runk 4 3 [3, 4, 0] [(tI 3 (if x21 > x_v11 then x21 else x_v11)), (tI 4 x_v10), (tS 0 a_x x.length c_x)] ao q.plOk (by kernel_rfl) fun bh ap => ?_
     refine wpFrom_end (by decide) (wp_region_from (R_runk 0 3 [4, 3, 0] [(tI 4 (IntKind.i64.wrap (x_v10 + 1))), (tI 3 (if x21 > x_v11 then x21 else x_v11)), (tS 0 a_x x.length c_x)] ap q.plOk (by kernel_rfl) fun bi aq => ?_))
     refine wpFrom_end (by decide) ?_
     exact Exists.intro s ⟨Nat.lt_succ_self _, Exists.intro (IntKind.i64.wrap (x_v10 + 1)) ⟨(if x21 > x_v11 then x21 else x_v11), _, _, rfl, ((aq.keep [4, 3, 0] (by rfl)).cut 1 (by kernel_rfl)), (q.cutPl 1 (by kernel_rfl)), o, a⟩⟩
    ·
     rw [k, cond_false] at a
     refine wp_exit ?_
     obtain rfl := Option.some.inj a
     exact Exists.intro _ ⟨_, rfl, (m.keep [3] (by rfl)), f, o⟩
  ·
   rintro _ bl ⟨u, i, rfl, ar, ac, aw⟩
   replace hr_x := hr_x.mono aw
   refine wp_seq (wp_region_from (R_runk 0 2 [2] [(tI 2 g)] ar ac.plOk (by kernel_rfl) fun bk au => ?_))
   refine wpFrom_end (by decide) (wp_ret ?_)
   obtain rfl := Option.some.inj H
   exact ret_ok (.one (.c (.int .i64 g))) au ac (by kernel_rfl) rfl

set_option maxRecDepth 100000 in
set_option maxHeartbeats 4000000 in
theorem slices_Min_int_int_ok (n : Nat) {h : Heap} {w : World} (hh : Has h w) (x : List Int) {a_x : Option Addr} {c_x : Nat} (hr_x : RepS h a_x c_x x) {r : Int} (H : slices_Min_int_int n x = some r) :
  Calls Try.prog 90 #[.slice a_x x.length c_x] w (Ret (fun h v => v = .int .i64 r) h w) := by
 refine enter 25 [.c (.slice a_x x.length c_x)] Try.func90 rfl rfl rfl rfl fun t hk => ?_
 have hm := Mem.begin h w hh
 unfold slices_Min_int_int at H
 refine wp_seq (wp_region_from (R_runk 0 1 [0] [(tS 0 a_x x.length c_x)] hk hm.plOk (by kernel_rfl) fun bb aj => ?_))
 refine wpFrom_end (by decide) (wp_seq (wp_seq (wp_region_from (R_runk 0 3 [7, 0] [(tB 7 (decide (((x.length : Nat) : Int) < 1))), (tS 0 a_x x.length c_x)] aj hm.plOk (by kernel_rfl) fun be ab => ?_))))
 refine wpFrom_end (by decide) (wp_cond_sv (decide (((x.length : Nat) : Int) < 1)) ab (by kernel_rfl) (fun l => ?_) (fun l => ?_))
 ·
  rw [l, cond_true] at H
  cases H
 ·
  rw [l, cond_false] at H
  refine wp_skip (wp_seq (wp_region_from (R_runk 0 1 [9, 0] [(tS 9 a_x x.length c_x), (tS 0 a_x x.length c_x)] ab hm.plOk (by kernel_rfl) fun bj av => ?_)))
  obtain ⟨x10, ex10, H⟩ := bnd H
  obtain ⟨ax, az, a3⟩ := idx_some ex10
  obtain ⟨b, d, a9, ae, a1, ag⟩ := hr_x.get (by decide) a3
  obtain rfl := a1
  have p : Mem ⟨w, h, noX⟩ h [(b, d + (0 : Int).toNat * 1)] [⟨[.int .i64 x10], none⟩] [] w := hm.addPlc (cs := [.int .i64 x10]) (fun j c hj => ag j _ (map_get hj)) rfl (by kernel_rfl) (by kernel_rfl)
  refine R_index 1 (0) rfl rfl (rfl) rfl (by decide) av (by rfl) (by rfl) (by rfl) ae (by rfl) ax az (by kernel_rfl) fun a6 (ai : Kn 25 [(b, d + (0 : Int).toNat * 1)] [(tP 10 0 0), (tS 9 a_x x.length c_x), (tS 0 a_x x.length c_x)] a6) => ?_
  refine R_runk 2 2 [3, 0] [(tI 3 x10), (tS 0 a_x x.length c_x)] ai p.plOk (by kernel_rfl) fun bc ak => ?_
  refine wpFrom_end (by decide) (wp_seq (wp_seq (wp_region_from (R_runk 0 1 [4, 3, 0] [(tI 4 1), (tI 3 x10), (tS 0 a_x x.length c_x)] ak p.plOk (by kernel_rfl) fun bd al => ?_))))
  refine wpFrom_end (by decide) ?_
  obtain ⟨g, aa, H⟩ := bnd H
  refine wp_mid' (fun a' w' => ∃ (u : Array Value) (i : Heap), a' = ⟨u, []⟩ ∧ Kn 25 [(b, d + (0 : Int).toNat * 1)] [(tI 3 g)] u ∧ Mem ⟨w, h, noX⟩ i [(b, d + (0 : Int).toNat * 1)] [⟨[.int .i64 x10], none⟩] [] w' ∧ Heap.le h i) ?_ ?_
  ·
   refine wp_block ?_
   refine wp_loop_n (fun a5 a' w' => ∃ (x_v10 : Int) (x_v11 : Int) (y : Array Value) (e : Heap), a' = ⟨y, []⟩ ∧ Kn 25 [(b, d + (0 : Int).toNat * 1)] [(tI 4 x_v10), (tI 3 x_v11), (tS 0 a_x x.length c_x)] y ∧ Mem ⟨w, h, noX⟩ e [(b, d + (0 : Int).toNat * 1)] [⟨[.int .i64 x10], none⟩] [] w' ∧ Heap.le h e ∧ slices_Min_int_int_l1 a5 x x_v10 x_v11 = some g) n ?_ ?_
   ·
    exact Exists.intro 1 ⟨x10, _, _, rfl, (al.keep [4, 3, 0] (by rfl)), p, (Heap.le_refl _), aa⟩
   ·
    rintro s _ a8 ⟨x_v10, x_v11, y, e, rfl, am, f, o, a⟩
    clear aa
    obtain _ | s := s
    ·
     rw [slices_Min_int_int_l1] at a; cases a
    rw [slices_Min_int_int_l1] at a
    replace hr_x := hr_x.mono o
    refine wp_seq (wp_seq (wp_region_from (R_runk 0 4 [15, 4, 3, 0] [(tB 15 (decide (x_v10 < ((x.length : Nat) : Int)))), (tI 4 x_v10), (tI 3 x_v11), (tS 0 a_x x.length c_x)] am f.plOk (by kernel_rfl) fun bf m => ?_)))
    refine wpFrom_end (by decide) (wp_cond_sv (decide (x_v10 < ((x.length : Nat) : Int))) m (by kernel_rfl) (fun k => ?_) (fun k => ?_))
    ·
     rw [k, cond_true] at a
     refine wp_skip (wp_seq (wp_block (wp_region_from (R_runk 0 3 [20, 19, 18, 4, 0] [(tI 20 x_v10), (tS 19 a_x x.length c_x), (tI 18 x_v11), (tI 4 x_v10), (tS 0 a_x x.length c_x)] m f.plOk (by kernel_rfl) fun bg an => ?_))))
     obtain ⟨x21, ex21, a⟩ := bnd a
     obtain ⟨ay, a0, a4⟩ := idx_some ex21
     obtain ⟨z, ad, ba, af, a2, ah⟩ := hr_x.get (by decide) a4
     obtain rfl := a2
     have q : Mem ⟨w, h, noX⟩ e [(b, d + (0 : Int).toNat * 1), (z, ad + (x_v10 : Int).toNat * 1)] [⟨[.int .i64 x10], none⟩, ⟨[.int .i64 x21], none⟩] [] a8 := f.addPlc (cs := [.int .i64 x21]) (fun j c hj => ah j _ (map_get hj)) rfl (by kernel_rfl) (by kernel_rfl)
     refine R_index 3 (x_v10) rfl rfl (rfl) rfl (by decide) an (by rfl) (by rfl) (by rfl) af (by rfl) ay a0 (by kernel_rfl) fun a7 (ao : Kn 25 [(b, d + (0 : Int).toNat * 1), (z, ad + (x_v10 : Int).toNat * 1)] [(tP 21 1 0), (tI 20 x_v10), (tS 19 a_x x.length c_x), (tI 18 x_v11), (tI 4 x_v10), (tS 0 a_x x.length c_x)] a7) => ?_
     refine R_runk 4 3 [3, 4, 0] [(tI 3 (if x21 < x_v11 then x21 else x_v11)), (tI 4 x_v10), (tS 0 a_x x.length c_x)] ao q.plOk (by kernel_rfl) fun bh ap => ?_
     refine wpFrom_end (by decide) (wp_region_from (R_runk 0 3 [4, 3, 0] [(tI 4 (IntKind.i64.wrap (x_v10 + 1))), (tI 3 (if x21 < x_v11 then x21 else x_v11)), (tS 0 a_x x.length c_x)] ap q.plOk (by kernel_rfl) fun bi aq => ?_))
     refine wpFrom_end (by decide) ?_
     exact Exists.intro s ⟨Nat.lt_succ_self _, Exists.intro (IntKind.i64.wrap (x_v10 + 1)) ⟨(if x21 < x_v11 then x21 else x_v11), _, _, rfl, ((aq.keep [4, 3, 0] (by rfl)).cut 1 (by kernel_rfl)), (q.cutPl 1 (by kernel_rfl)), o, a⟩⟩
    ·
     rw [k, cond_false] at a
     refine wp_exit ?_
     obtain rfl := Option.some.inj a
     exact Exists.intro _ ⟨_, rfl, (m.keep [3] (by rfl)), f, o⟩
  ·
   rintro _ bl ⟨u, i, rfl, ar, ac, aw⟩
   replace hr_x := hr_x.mono aw
   refine wp_seq (wp_region_from (R_runk 0 2 [2] [(tI 2 g)] ar ac.plOk (by kernel_rfl) fun bk au => ?_))
   refine wpFrom_end (by decide) (wp_ret ?_)
   obtain rfl := Option.some.inj H
   exact ret_ok (.one (.c (.int .i64 g))) au ac (by kernel_rfl) rfl

set_option maxRecDepth 100000 in
set_option maxHeartbeats 4000000 in
theorem control_latest_ok (n : Nat) {h : Heap} {w : World} (hh : Has h w) (l : List Int) {a_l : Option Addr} {c_l : Nat} (hr_l : RepS h a_l c_l l) {r : Int} (H : control_latest n l = some r) :
  Calls Try.prog 57 #[.slice a_l l.length c_l] w (Ret (fun h v => v = .int .i64 r) h w) := by
 refine enter 5 [.c (.slice a_l l.length c_l)] Try.func57 rfl rfl rfl rfl fun t hk => ?_
 have hm := Mem.begin h w hh
 unfold control_latest at H
 refine wp_seq (wp_region_from (R_runk 0 1 [0] [(tS 0 a_l l.length c_l)] hk hm.plOk (by kernel_rfl) fun m f => ?_))
 refine wpFrom_end (by decide) (wp_seq (wp_region_from (R_runk 0 1 [3] [(tS 3 a_l l.length c_l)] f hm.plOk (by kernel_rfl) fun p g => ?_)))
 obtain ⟨x4, ex4, H⟩ := bnd H
 refine wpFrom_loud _ rfl (rfl) fun K hK => ?_
 refine wp_call [.c (.slice a_l l.length c_l)] _ g hm rfl rfl (by decide) (by rfl) rfl (fun _ _ => by kernel_rfl) (slices_Max_int_int_ok n hm.has l hr_l ex4) fun q k s b i a => ?_
 replace hr_l := hr_l.mono i
 obtain rfl := b
 refine ⟨.one (.c (.int .i64 x4)), rfl, fun j (d : Kn 5 [] [(tI 4 x4), (tS 3 a_l l.length c_l)] j) => hK _ _ ?_⟩
 refine R_runk 2 1 [2] [(tI 2 x4)] d a.plOk (by kernel_rfl) fun o e => ?_
 refine wpFrom_end (by decide) (wp_ret ?_)
 obtain rfl := Option.some.inj H
 exact ret_ok (.one (.c (.int .i64 x4))) e a (by kernel_rfl) rfl

set_option maxRecDepth 100000 in
set_option maxHeartbeats 4000000 in
theorem control_earliest_ok (n : Nat) {h : Heap} {w : World} (hh : Has h w) (l : List Int) {a_l : Option Addr} {c_l : Nat} (hr_l : RepS h a_l c_l l) {r : Int} (H : control_earliest n l = some r) :
  Calls Try.prog 59 #[.slice a_l l.length c_l] w (Ret (fun h v => v = .int .i64 r) h w) := by
 refine enter 5 [.c (.slice a_l l.length c_l)] Try.func59 rfl rfl rfl rfl fun t hk => ?_
 have hm := Mem.begin h w hh
 unfold control_earliest at H
 refine wp_seq (wp_region_from (R_runk 0 1 [0] [(tS 0 a_l l.length c_l)] hk hm.plOk (by kernel_rfl) fun m f => ?_))
 refine wpFrom_end (by decide) (wp_seq (wp_region_from (R_runk 0 1 [3] [(tS 3 a_l l.length c_l)] f hm.plOk (by kernel_rfl) fun p g => ?_)))
 obtain ⟨x4, ex4, H⟩ := bnd H
 refine wpFrom_loud _ rfl (rfl) fun K hK => ?_
 refine wp_call [.c (.slice a_l l.length c_l)] _ g hm rfl rfl (by decide) (by rfl) rfl (fun _ _ => by kernel_rfl) (slices_Min_int_int_ok n hm.has l hr_l ex4) fun q k s b i a => ?_
 replace hr_l := hr_l.mono i
 obtain rfl := b
 refine ⟨.one (.c (.int .i64 x4)), rfl, fun j (d : Kn 5 [] [(tI 4 x4), (tS 3 a_l l.length c_l)] j) => hK _ _ ?_⟩
 refine R_runk 2 1 [2] [(tI 2 x4)] d a.plOk (by kernel_rfl) fun o e => ?_
 refine wpFrom_end (by decide) (wp_ret ?_)
 obtain rfl := Option.some.inj H
 exact ret_ok (.one (.c (.int .i64 x4))) e a (by kernel_rfl) rfl

abbrev K67c1 (x15 : Rg) : List SC := [.int .i64 x15.lo, .int .i64 x15.hi]
abbrev K67c2 (x30 : Bus) : List SC := [.int .i64 x30.tm.lo, .int .i64 x30.tm.hi]
abbrev K67c3 (r_ : Route) : List SC := [.int .i64 r_.turn.lo, .int .i64 r_.turn.hi]
abbrev K67c4 : List SC := [.slice none 0 0, .slice none 0 0, .slice none 0 0]
abbrev K67c5 (x30 : Bus) : List SC := [.int .i64 x30.stop, .int .i64 x30.tm.lo, .int .i64 x30.tm.hi]
abbrev K67e6 (d f m bv b1 : Nat) (x_v11 : Int) (cf : Nat) : Env := [(d, 0), (f, 0), (m, 0), (bv, b1 + (x_v11 : Int).toNat * 2), (cf, 0)]
abbrev K67e7 (d f m ac ad : Nat) (x_v24 : Int) (ae : Nat) : Env := [(d, 0), (f, 0), (m, 0), (ac, ad + (x_v24 : Int).toNat * 3), (ae, 0)]
abbrev K67c8 (y : Option Addr) (x_v21 : List Int) (z : Nat) (u : Option Addr) (x_v22 : List Int) (x : Nat) (q : Option Addr) (x_v23 : List (List Int)) (s : Nat) : List SC := [.slice y x_v21.length z, .slice u x_v22.length x, .slice q x_v23.length s]
abbrev K67c9 (av : Option Addr) (ah : ((List Int) × (List Int) × (List Int) × (List (List Int)))) (ax : Nat) (aw : Option Addr) (ay : Nat) (bf : Option Addr) (a6 : ((List Int) × (List (List Int)))) (bh : Nat) : List SC := [.slice av ah.2.1.length ax, .slice aw ah.2.2.1.length ay, .slice bf a6.2.length bh]
abbrev K67c10 (aa : Option Addr) (r_ : Route) (ab : Nat) (a : Option Addr) (b : Nat) (af : Option Addr) (ag : Nat) : List SC := [.slice aa r_.legs.length ab, .int .i64 r_.turn.lo, .int .i64 r_.turn.hi, .slice a r_.buses.length b, .slice af r_.spares.length ag, .int .i64 r_.unit, .int .i64 r_.gap, .int .i64 r_.fr, .int .i64 r_.to_]
abbrev K67p11 (aa : Option Addr) (r_ : Route) (ab : Nat) (a : Option Addr) (b : Nat) (af : Option Addr) (ag : Nat) (l : Fn) (g k : Array Value) : List Plc := [⟨(K67c10 aa r_ ab a b af ag), some 43⟩, ⟨[.func l g k], some 132⟩, ⟨K67c4, some 76⟩]
abbrev K67p12 (aa : Option Addr) (r_ : Route) (ab : Nat) (a : Option Addr) (b : Nat) (af : Option Addr) (ag : Nat) (l : Fn) (g k : Array Value) (y : Option Addr) (x_v21 : List Int) (z : Nat) (u : Option Addr) (x_v22 : List Int) (x : Nat) (q : Option Addr) (x_v23 : List (List Int)) (s : Nat) (x30 : Bus) : List Plc := [⟨(K67c10 aa r_ ab a b af ag), some 43⟩, ⟨[.func l g k], some 132⟩, ⟨(K67c8 y x_v21 z u x_v22 x q x_v23 s), some 76⟩, ⟨(K67c5 x30), none⟩, ⟨(K67c5 x30), some 96⟩]
abbrev K67r13 (o : Option Addr) (x_v20 : List Int) (p : Nat) (am : List Value) (a0 : Nat) (y : Option Addr) (x_v21 : List Int) (z : Nat) (ar : List Value) (u : Option Addr) (x_v22 : List Int) (x : Nat) (an : List Value) (q : Option Addr) (x_v23 : List (List Int)) (s : Nat) (ao : List Value) : List Row := [⟨o, x_v20.length, p, 3, 1, am, a0⟩, ⟨y, x_v21.length, z, 3, 1, ar, 0⟩, ⟨u, x_v22.length, x, 3, 1, an, 0⟩, ⟨q, x_v23.length, s, 31, 1, ao, 0⟩, ⟨none, 0, 0, 3, 1, [], 0⟩, ⟨none, 0, 0, 3, 1, [], 0⟩, ⟨none, 0, 0, 31, 1, [], 0⟩]
abbrev K67m14 (x_v24 : Int) (r_ : Route) (a : Option Addr) (b : Nat) (o : Option Addr) (x_v20 : List Int) (p : Nat) : TM := [(tI 28 x_v24), (tI 27 ((r_.buses.length : Nat) : Int)), (tS 26 a r_.buses.length b), (tS 5 o x_v20.length p), (tP 4 2 0), (tP 3 1 0), (tP 2 0 0)]
abbrev K67m15 (o : Option Addr) (x_v20 : List Int) (p : Nat) (q : Option Addr) (x_v23 : List (List Int)) (s : Nat) (u : Option Addr) (x_v22 : List Int) (x : Nat) (x30 : Bus) (l : Fn) (g k : Array Value) (y : Option Addr) (x_v21 : List Int) (z : Nat) (x_v24 : Int) (r_ : Route) (a : Option Addr) (b : Nat) : TM := (tS 52 o x_v20.length p) :: (tS 51 q x_v23.length s) :: (tP 45 0 1) :: (tP 43 1 0) :: (tS 42 u x_v22.length x) :: (tA 37 (K67c2 x30)) :: (35, .one (.c (.func l g k))) :: (tS 33 y x_v21.length z) :: (K67m14 x_v24 r_ a b o x_v20 p)
abbrev K67m16 (r_ : Route) (l : Fn) (g k : Array Value) (a1 : Option Addr) (x40 : List Int) (a2 : Nat) (o : Option Addr) (x_v20 : List Int) (p : Nat) (q : Option Addr) (x_v23 : List (List Int)) (s : Nat) (u : Option Addr) (x_v22 : List Int) (x : Nat) (x_v24 : Int) (a : Option Addr) (b : Nat) : TM := (tA 46 (K67c3 r_)) :: (44, .one (.c (.func l g k))) :: (tP 56 2 0) :: (tS 40 a1 x40.length a2) :: (tS 52 o x_v20.length p) :: (tS 51 q x_v23.length s) :: (tS 42 u x_v22.length x) :: (K67m14 x_v24 r_ a b o x_v20 p)
abbrev K67m17 (x_v11 : Int) (r_ : Route) (aa : Option Addr) (ab : Nat) (bc : Option Addr) (x_v10 : List Int) (bd : Nat) : TM := [(tI 13 x_v11), (tI 12 ((r_.legs.length : Nat) : Int)), (tS 11 aa r_.legs.length ab), (tS 5 bc x_v10.length bd), (tP 4 2 0), (tP 3 1 0), (tP 2 0 0)]
abbrev K67m18 (u : Option Addr) (x_v22 : List Int) (x : Nat) (y : Option Addr) (x_v21 : List Int) (z : Nat) (x_v24 : Int) (r_ : Route) (a : Option Addr) (b : Nat) (o : Option Addr) (x_v20 : List Int) (p : Nat) : TM := (tS 42 u x_v22.length x) :: (tS 33 y x_v21.length z) :: (K67m14 x_v24 r_ a b o x_v20 p)
abbrev K67m19 (x_v32 : Int) (r_ : Route) (a7 : Option Addr) (x_v30 : List Int) (a8 : Nat) : TM := [(tI 63 x_v32), (tI 62 ((r_.spares.length : Nat) : Int)), (tS 5 a7 x_v30.length a8), (tP 4 2 0)]
set_option maxRecDepth 100000 in
set_option maxHeartbeats 4000000 in
theorem control_Route_ends_ok (n : Nat) {h : Heap} {w : World} (hh : Has h w) (r_ : Route) {cs_r_ : List Value} (hx_r_ : rep h r_ cs_r_) (e : End) {cs_e : List Value} (hx_e : rep h e cs_e) {r : Truth} (H : control_Route_ends n r_ e = some r) :
  Calls Try.prog 67 #[.agg cs_r_.toArray, .agg cs_e.toArray] w (Ret (fun h v => ∃ cs, v = .agg cs.toArray ∧ rep h r cs) h w) := by
 obtain ⟨_, _, rfl, ⟨aa, ab, rfl, aj⟩, ⟨_, _, rfl, ⟨_, _, rfl, rfl, rfl⟩, ⟨_, _, rfl, ⟨a, b, rfl, ak⟩, ⟨_, _, rfl, ⟨af, ag, rfl, al⟩, ⟨_, _, rfl, rfl, ⟨_, _, rfl, rfl, ⟨_, _, rfl, rfl, rfl⟩⟩⟩⟩⟩⟩⟩ := hx_r_
 obtain ⟨l, g, k, rfl, ai⟩ := hx_e
 refine enter 74 [.agg (K67c10 aa r_ ab a b af ag), .agg [.func l g k]] Try.func67 rfl rfl rfl rfl fun t hk => ?_
 have hm := Mem.begin h w hh
 unfold control_Route_ends at H
 refine wp_seq (wp_region_from (wpFrom_loud _ rfl (rfl) fun K hK => ?_))
 refine wp_box (.agg (K67c10 aa r_ ab a b af ag)) hk hm rfl rfl (by decide) (by kernel_rfl) (by kernel_rfl) (by kernel_rfl) fun d oo p0 (k2 : Kn 74 [(d, 0)] [(tP 2 0 0), (tA 0 (K67c10 aa r_ ab a b af ag)), (tA 1 [.func l g k])] oo) (nt : Mem ⟨w, h, noX⟩ h [(d, 0)] [⟨(K67c10 aa r_ ab a b af ag), some 43⟩] [] p0) => hK _ _ ?_
 refine wpFrom_loud _ rfl (rfl) fun K hK => ?_
 refine wp_box (.agg [.func l g k]) k2 nt rfl rfl (by decide) (by kernel_rfl) (by kernel_rfl) (by kernel_rfl) fun f oq p3 (k9 : Kn 74 [(d, 0), (f, 0)] [(tP 3 1 0), (tP 2 0 0), (tA 0 (K67c10 aa r_ ab a b af ag)), (tA 1 [.func l g k])] oq) (nx : Mem ⟨w, h, noX⟩ h [(d, 0), (f, 0)] [⟨(K67c10 aa r_ ab a b af ag), some 43⟩, ⟨[.func l g k], some 132⟩] [] p3) => hK _ _ ?_
 refine wpFrom_loud _ rfl (rfl) fun K hK => ?_
 refine wp_alloc K67c4 k9 nx rfl rfl (by decide) (by kernel_rfl) (by kernel_rfl) (by kernel_rfl) fun m jp js (lg : Kn 74 [(d, 0), (f, 0), (m, 0)] [(tP 4 2 0), (tP 3 1 0), (tP 2 0 0), (tA 0 (K67c10 aa r_ ab a b af ag)), (tA 1 [.func l g k])] jp) (go : Mem ⟨w, h, noX⟩ h [(d, 0), (f, 0), (m, 0)] (K67p11 aa r_ ab a b af ag l g k) [] js) => hK _ _ ?_
 have ll : Kn 74 [(d, 0), (f, 0), (m, 0)] [(tP 4 2 0), (tP 3 1 0), (tP 2 0 0)] jp := lg.keep [4, 3, 2] (by rfl)
 refine wpFrom_end (by decide) (wp_seq (wp_region_from (R_runk 0 1 [5, 4, 3, 2] [(tS 5 none 0 0), (tP 4 2 0), (tP 3 1 0), (tP 2 0 0)] ll go.plOk (by kernel_rfl) fun q3 ls => ?_)))
 refine wpFrom_end (by decide) (wp_seq (wp_seq (wp_region_from (R_runk 0 4 [13, 12, 11, 5, 4, 3, 2] [(tI 13 0), (tI 12 ((r_.legs.length : Nat) : Int)), (tS 11 aa r_.legs.length ab), (tS 5 none 0 0), (tP 4 2 0), (tP 3 1 0), (tP 2 0 0)] ls go.plOk (by kernel_rfl) fun q4 lw => ?_))))
 refine wpFrom_end (by decide) ?_
 have ny : Mem ⟨w, h, noX⟩ h [(d, 0), (f, 0), (m, 0)] (K67p11 aa r_ ab a b af ag l g k) [⟨none, 0, 0, 3, 1, [], 0⟩] js := go.nilRow 3 1
 have kf : Cells h ([] : List Int) [] := Cells.nil
 obtain ⟨c0, h2, H⟩ := bnd H
 refine wp_mid' (fun a' w' => ∃ (c4 : Option Addr) (c8 : Nat) (dr : List Value) (hw : Array Value) (b4 : Heap), a' = ⟨hw, []⟩ ∧ Kn 74 [(d, 0), (f, 0), (m, 0)] [(tS 5 c4 c0.length c8), (tP 4 2 0), (tP 3 1 0), (tP 2 0 0)] hw ∧ Mem ⟨w, h, noX⟩ b4 [(d, 0), (f, 0), (m, 0)] (K67p11 aa r_ ab a b af ag l g k) [⟨c4, c0.length, c8, 3, 1, dr, 0⟩] w' ∧ Heap.le h b4 ∧ Cells b4 c0 dr) ?_ ?_
 ·
  refine wp_block ?_
  refine wp_loop_n (fun ok a' w' => ∃ (x_v10 : List Int) (x_v11 : Int) (bc : Option Addr) (bd : Nat) (cj : List Value) (hx : Array Value) (db : Heap), a' = ⟨hx, []⟩ ∧ Kn 74 [(d, 0), (f, 0), (m, 0)] (K67m17 x_v11 r_ aa ab bc x_v10 bd) hx ∧ Mem ⟨w, h, noX⟩ db [(d, 0), (f, 0), (m, 0)] (K67p11 aa r_ ab a b af ag l g k) [⟨bc, x_v10.length, bd, 3, 1, cj, 0⟩] w' ∧ Heap.le h db ∧ Cells db x_v10 cj ∧ control_Route_ends_l1 ok r_ e x_v10 x_v11 = some c0) n ?_ ?_
  ·
   exact Exists.intro ([] : List Int) ⟨0, none, 0, ([]), _, _, rfl, (lw.keep [13, 12, 11, 5, 4, 3, 2] (by rfl)), ny, (Heap.le_refl _), kf, h2⟩
  ·
   rintro he _ qi ⟨x_v10, x_v11, bc, bd, cj, hx, db, rfl, mt, gv, eb, fb, bw⟩
   clear h2
   obtain _ | he := he
   ·
    rw [control_Route_ends_l1] at bw; cases bw
   rw [control_Route_ends_l1] at bw
   replace aj := aj.mono eb
   replace ak := ak.mono eb
   replace al := al.mono eb
   replace ai := ai.mono eb
   refine wp_seq (wp_region_from (R_runk 0 1 [14, 13, 12, 11, 5, 4, 3, 2] ((tB 14 (decide (x_v11 < ((r_.legs.length : Nat) : Int)))) :: (K67m17 x_v11 r_ aa ab bc x_v10 bd)) mt gv.plOk (by kernel_rfl) fun rc gi => ?_))
   refine wpFrom_end (by decide) (wp_seq (wp_cond_sv (decide (x_v11 < ((r_.legs.length : Nat) : Int))) gi (by kernel_rfl) (fun f8 => ?_) (fun f8 => ?_)))
   ·
    rw [f8, cond_true] at bw
    refine wp_skip (wp_seq (wp_block (wp_seq (wp_region_from ?_))))
    obtain ⟨x15, ex15, bw⟩ := bnd bw
    obtain ⟨n3, n5, oi⟩ := idx_some ex15
    obtain ⟨bv, b1, qr, j2, og, ko⟩ := aj.get (by decide) oi
    obtain ⟨_, _, rfl, rfl, rfl⟩ := og
    have jf : Mem ⟨w, h, noX⟩ db [(d, 0), (f, 0), (m, 0), (bv, b1 + (x_v11 : Int).toNat * 2)] [⟨(K67c10 aa r_ ab a b af ag), some 43⟩, ⟨[.func l g k], some 132⟩, ⟨K67c4, some 76⟩, ⟨(K67c1 x15), none⟩] [⟨bc, x_v10.length, bd, 3, 1, cj, 0⟩] qi := gv.addPlc (cs := (K67c1 x15)) (fun j c hj => ko j _ (map_get hj)) rfl (by kernel_rfl) (by kernel_rfl)
    refine R_index 0 (x_v11) rfl rfl (rfl) rfl (by decide) gi (by rfl) (by rfl) (by rfl) j2 (by rfl) n3 n5 (by kernel_rfl) fun pw (m8 : Kn 74 [(d, 0), (f, 0), (m, 0), (bv, b1 + (x_v11 : Int).toNat * 2)] ((tP 15 3 0) :: (tB 14 (decide (x_v11 < ((r_.legs.length : Nat) : Int)))) :: (K67m17 x_v11 r_ aa ab bc x_v10 bd)) pw) => ?_
    refine R_runk 1 1 [16, 13, 12, 11, 5, 4, 3, 2] ((tA 16 (K67c1 x15)) :: (K67m17 x_v11 r_ aa ab bc x_v10 bd)) m8 jf.plOk (by kernel_rfl) fun re m9 => ?_
    refine wpFrom_loud _ rfl (rfl) fun K hK => ?_
    refine wp_alloc [.int .i64 0, .int .i64 0] m9 jf rfl rfl (by decide) (by kernel_rfl) (by kernel_rfl) (by kernel_rfl) fun cf jq qn (na : Kn 74 (K67e6 d f m bv b1 x_v11 cf) ((tP 7 4 0) :: (tA 16 (K67c1 x15)) :: (K67m17 x_v11 r_ aa ab bc x_v10 bd)) jq) (n0 : Mem ⟨w, h, noX⟩ db (K67e6 d f m bv b1 x_v11 cf) [⟨(K67c10 aa r_ ab a b af ag), some 43⟩, ⟨[.func l g k], some 132⟩, ⟨K67c4, some 76⟩, ⟨(K67c1 x15), none⟩, ⟨[.int .i64 0, .int .i64 0], some 39⟩] [⟨bc, x_v10.length, bd, 3, 1, cj, 0⟩] qn) => hK _ _ ?_
    refine wpFrom_loud _ rfl (rfl) fun K hK => ?_
    refine wp_store 4 0 (.agg (K67c1 x15)) (K67c1 x15) na n0 rfl rfl (by rfl) (by rfl) (by rfl) (by kernel_rfl) (by kernel_rfl) (by rfl) fun qo nb (gz : Mem ⟨w, h, noX⟩ db (K67e6 d f m bv b1 x_v11 cf) [⟨(K67c10 aa r_ ab a b af ag), some 43⟩, ⟨[.func l g k], some 132⟩, ⟨K67c4, some 76⟩, ⟨(K67c1 x15), none⟩, ⟨(K67c1 x15), some 39⟩] [⟨bc, x_v10.length, bd, 3, 1, cj, 0⟩] qo) => hK _ _ ?_
    have nc : Kn 74 (K67e6 d f m bv b1 x_v11 cf) ((tP 7 4 0) :: (K67m17 x_v11 r_ aa ab bc x_v10 bd)) jq := nb.keep [7, 13, 12, 11, 5, 4, 3, 2] (by rfl)
    refine wpFrom_end (by decide) (wp_region_from (R_runk 0 4 [20, 19, 17, 13, 12, 11, 4, 3, 2] [(tA 20 (K67c1 x15)), (19, .one (.c (.func l g k))), (tS 17 bc x_v10.length bd), (tI 13 x_v11), (tI 12 ((r_.legs.length : Nat) : Int)), (tS 11 aa r_.legs.length ab), (tP 4 2 0), (tP 3 1 0), (tP 2 0 0)] nc gz.plOk (by kernel_rfl) fun rf nd => ?_))
    obtain ⟨x21, ex21, bw⟩ := bnd bw
    refine wpFrom_loud _ rfl (rfl) fun K hK => ?_
    refine wp_callV (.func l g k) [.agg (K67c1 x15)] _ nd gz rfl rfl (by decide) (by rfl) (by rfl) rfl (ai _ _ (Heap.le_refl _) gz.has x15 _ ((rep_pair rep_int rep_int) : rep db x15 _) _ ex21) fun rn et r8 j0 ed n1 => ?_
    replace aj := aj.mono ed
    replace ak := ak.mono ed
    replace al := al.mono ed
    replace ai := ai.mono ed
    replace fb := fb.mono ed
    obtain rfl := j0
    refine ⟨.one (.c (.int .i64 x21)), rfl, fun px (nf : Kn 74 (K67e6 d f m bv b1 x_v11 cf) [(tI 21 x21), (tA 20 (K67c1 x15)), (19, .one (.c (.func l g k))), (tS 17 bc x_v10.length bd), (tI 13 x_v11), (tI 12 ((r_.legs.length : Nat) : Int)), (tS 11 aa r_.legs.length ab), (tP 4 2 0), (tP 3 1 0), (tP 2 0 0)] px) => hK _ _ ?_⟩
    refine wpFrom_loud _ rfl (rfl) fun K hK => ?_
    refine wp_buildSlice 3 1 [.int .i64 x21] nf n1 rfl rfl (by decide) (by kernel_rfl) (by rfl) (by rfl) rfl (by decide) fun e4 py qp (ng : Kn 74 (K67e6 d f m bv b1 x_v11 cf) [(tS 22 e4 1 1), (tI 21 x21), (tA 20 (K67c1 x15)), (19, .one (.c (.func l g k))), (tS 17 bc x_v10.length bd), (tI 13 x_v11), (tI 12 ((r_.legs.length : Nat) : Int)), (tS 11 aa r_.legs.length ab), (tP 4 2 0), (tP 3 1 0), (tP 2 0 0)] py) (jg : Mem ⟨w, h, noX⟩ et (K67e6 d f m bv b1 x_v11 cf) [⟨(K67c10 aa r_ ab a b af ag), some 43⟩, ⟨[.func l g k], some 132⟩, ⟨K67c4, some 76⟩, ⟨(K67c1 x15), none⟩, ⟨(K67c1 x15), some 39⟩] [⟨bc, x_v10.length, bd, 3, 1, cj, 0⟩, ⟨e4, 1, 1, 3, 1, ([.int .i64 x21] : List Value), 0⟩] qp) => ?_
    have gb : Cells et ([x21] : List Int) ([.int .i64 x21] : List Value) := ⟨_, _, rfl, (rep_int : rep et (x21 : Int) _), rfl⟩
    refine hK _ _ ?_
    obtain ⟨x23, ex23, bw⟩ := bnd bw
    obtain ⟨g3, nh⟩ := app_some ex23
    refine wpFrom_loud _ rfl (rfl) fun K hK => ?_
    refine wp_append 0 8 1 _ (x23.length) _ ([.int .i64 x21] : List Value) ng jg rfl rfl (by decide) rfl (by rfl) (by kernel_rfl) (by rfl) (by rfl) (Cells.len gb) (jg.rowCell (i := 1) rfl) gb.one (by rw [g3]; simp) (by rw [g3]; exact nh) (by decide) fun ee ej h4 om pz kp (kx : Kn 74 [(d, 0), (f, 0), (m, 0), (bv, b1 + (x_v11 : Int).toNat * 2), (cf, 0)] [(23, .one (.c (.slice ee x23.length ej))), (22, .one (.c (.slice e4 1 1))), (21, .one (.c (.int .i64 x21))), (20, .one (.agg [.int .i64 x15.lo, .int .i64 x15.hi])), (19, .one (.c (.func l g k))), (17, .one (.c (.slice bc x_v10.length bd))), (13, .one (.c (.int .i64 x_v11))), (12, .one (.c (.int .i64 ((r_.legs.length : Nat) : Int)))), (11, .one (.c (.slice aa r_.legs.length ab))), (4, .one (.c (.ptr 2 0))), (3, .one (.c (.ptr 1 0))), (2, .one (.c (.ptr 0 0)))] om) (gj : Mem ⟨w, h, noX⟩ et [(d, 0), (f, 0), (m, 0), (bv, b1 + (x_v11 : Int).toNat * 2), (cf, 0)] [⟨[.slice aa r_.legs.length ab, .int .i64 r_.turn.lo, .int .i64 r_.turn.hi, .slice a r_.buses.length b, .slice af r_.spares.length ag, .int .i64 r_.unit, .int .i64 r_.gap, .int .i64 r_.fr, .int .i64 r_.to_], some 43⟩, ⟨[.func l g k], some 132⟩, ⟨[.slice none 0 0, .slice none 0 0, .slice none 0 0], some 76⟩, ⟨[.int .i64 x15.lo, .int .i64 x15.hi], none⟩, ⟨[.int .i64 x15.lo, .int .i64 x15.hi], some 39⟩] [⟨ee, x23.length, ej, 3, 1, (cj ++ ([.int .i64 x21] : List Value)), h4⟩, ⟨e4, 1, 1, 3, 1, ([.int .i64 x21] : List Value), 0⟩] pz) => ?_
    have j3 : Cells et x23 (cj ++ ([.int .i64 x21] : List Value)) := by rw [g3]; exact Cells.append fb gb
    obtain rfl : h4 = 0 := Nat.le_zero.1 kp
    refine hK _ _ ?_
    refine R_runk 7 1 [5, 13, 12, 11, 4, 3, 2] [(tS 5 ee x23.length ej), (tI 13 x_v11), (tI 12 ((r_.legs.length : Nat) : Int)), (tS 11 aa r_.legs.length ab), (tP 4 2 0), (tP 3 1 0), (tP 2 0 0)] kx gj.plOk (by kernel_rfl) fun qv ky => ?_
    refine wpFrom_end (by decide) (wp_region_from (R_runk 0 2 [13, 5, 12, 11, 4, 3, 2] [(tI 13 (IntKind.i64.wrap (x_v11 + 1))), (tS 5 ee x23.length ej), (tI 12 ((r_.legs.length : Nat) : Int)), (tS 11 aa r_.legs.length ab), (tP 4 2 0), (tP 3 1 0), (tP 2 0 0)] ky gj.plOk (by kernel_rfl) fun qw kz => ?_))
    refine wpFrom_end (by decide) ?_
    exact Exists.intro he ⟨Nat.lt_succ_self _, Exists.intro x23 ⟨(IntKind.i64.wrap (x_v11 + 1)), ee, ej, (cj ++ ([.int .i64 x21] : List Value)), _, _, rfl, ((kz.keep [13, 12, 11, 5, 4, 3, 2] (by rfl)).cut 3 (by kernel_rfl)), ((gj.cutRw 1).cutPl 3 (by kernel_rfl)), (Heap.le_trans eb ed), j3, bw⟩⟩
   ·
    rw [f8, cond_false] at bw
    refine wp_exit ?_
    obtain rfl := Option.some.inj bw
    exact Exists.intro bc ⟨bd, cj, _, _, rfl, (gi.keep [5, 4, 3, 2] (by rfl)), gv, eb, fb⟩
 ·
  rintro _ h0 ⟨c4, c8, dr, hw, b4, rfl, k0, ir, fc, kl⟩
  replace aj := aj.mono fc
  replace ak := ak.mono fc
  replace al := al.mono fc
  replace ai := ai.mono fc
  refine wp_seq (wp_seq (wp_region_from (R_runk 0 4 [28, 27, 26, 5, 4, 3, 2] [(tI 28 0), (tI 27 ((r_.buses.length : Nat) : Int)), (tS 26 a r_.buses.length b), (tS 5 c4 c0.length c8), (tP 4 2 0), (tP 3 1 0), (tP 2 0 0)] k0 ir.plOk (by kernel_rfl) fun qx k1 => ?_)))
  refine wpFrom_end (by decide) ?_
  have nq : Mem ⟨w, h, noX⟩ b4 [(d, 0), (f, 0), (m, 0)] (K67p11 aa r_ ab a b af ag l g k) [⟨c4, c0.length, c8, 3, 1, dr, 0⟩, ⟨none, 0, 0, 3, 1, [], 0⟩] h0 := ir.nilRow 3 1
  have j4 : Cells b4 ([] : List Int) [] := Cells.nil
  have nr : Mem ⟨w, h, noX⟩ b4 [(d, 0), (f, 0), (m, 0)] (K67p11 aa r_ ab a b af ag l g k) [⟨c4, c0.length, c8, 3, 1, dr, 0⟩, ⟨none, 0, 0, 3, 1, [], 0⟩, ⟨none, 0, 0, 3, 1, [], 0⟩] h0 := nq.nilRow 3 1
  have j5 : Cells b4 ([] : List Int) [] := Cells.nil
  have ns : Mem ⟨w, h, noX⟩ b4 [(d, 0), (f, 0), (m, 0)] (K67p11 aa r_ ab a b af ag l g k) [⟨c4, c0.length, c8, 3, 1, dr, 0⟩, ⟨none, 0, 0, 3, 1, [], 0⟩, ⟨none, 0, 0, 3, 1, [], 0⟩, ⟨none, 0, 0, 31, 1, [], 0⟩] h0 := nr.nilRow 31 1
  have j6 : Cells b4 ([] : List (List Int)) [] := Cells.nil
  obtain ⟨ah, h1, H⟩ := bnd H
  refine wp_mid' (fun a' w' => ∃ (ef : Option Addr) (ek : Nat) (fn : List Value) (f3 : Nat) (av : Option Addr) (ax : Nat) (bl : List Value) (aw : Option Addr) (ay : Nat) (bo : List Value) (e0 : Option Addr) (e5 : Nat) (fo : List Value) (hf : Array Value) (cw : Heap), a' = ⟨hf, []⟩ ∧ Kn 74 [(d, 0), (f, 0), (m, 0)] [(tS 5 ef ah.1.length ek), (tP 4 2 0), (tP 2 0 0)] hf ∧ Mem ⟨w, h, noX⟩ cw [(d, 0), (f, 0), (m, 0)] [⟨(K67c10 aa r_ ab a b af ag), some 43⟩, ⟨[.func l g k], some 132⟩, ⟨[.slice av ah.2.1.length ax, .slice aw ah.2.2.1.length ay, .slice e0 ah.2.2.2.length e5], some 76⟩] [⟨ef, ah.1.length, ek, 3, 1, fn, f3⟩, ⟨av, ah.2.1.length, ax, 3, 1, bl, 0⟩, ⟨aw, ah.2.2.1.length, ay, 3, 1, bo, 0⟩, ⟨e0, ah.2.2.2.length, e5, 31, 1, fo, 0⟩] w' ∧ Heap.le b4 cw ∧ Cells cw ah.1 fn ∧ Cells cw ah.2.1 bl ∧ Cells cw ah.2.2.1 bo ∧ Cells cw ah.2.2.2 fo) ?_ ?_
  ·
   refine wp_block ?_
   refine wp_loop_n (fun oj a' w' => ∃ (x_v20 : List Int) (x_v21 : List Int) (x_v22 : List Int) (x_v23 : List (List Int)) (x_v24 : Int) (o : Option Addr) (p : Nat) (am : List Value) (a0 : Nat) (y : Option Addr) (z : Nat) (ar : List Value) (u : Option Addr) (x : Nat) (an : List Value) (q : Option Addr) (s : Nat) (ao : List Value) (hg : Array Value) (a4 : Heap), a' = ⟨hg, []⟩ ∧ Kn 74 [(d, 0), (f, 0), (m, 0)] (K67m14 x_v24 r_ a b o x_v20 p) hg ∧ Mem ⟨w, h, noX⟩ a4 [(d, 0), (f, 0), (m, 0)] [⟨(K67c10 aa r_ ab a b af ag), some 43⟩, ⟨[.func l g k], some 132⟩, ⟨(K67c8 y x_v21 z u x_v22 x q x_v23 s), some 76⟩] [⟨o, x_v20.length, p, 3, 1, am, a0⟩, ⟨y, x_v21.length, z, 3, 1, ar, 0⟩, ⟨u, x_v22.length, x, 3, 1, an, 0⟩, ⟨q, x_v23.length, s, 31, 1, ao, 0⟩] w' ∧ Heap.le b4 a4 ∧ Cells a4 x_v20 am ∧ Cells a4 x_v21 ar ∧ Cells a4 x_v22 an ∧ Cells a4 x_v23 ao ∧ control_Route_ends_l2 oj r_ e x_v20 x_v21 x_v22 x_v23 x_v24 = some ah) n ?_ ?_
   ·
    exact Exists.intro c0 ⟨([] : List Int), ([] : List Int), ([] : List (List Int)), 0, c4, c8, dr, 0, none, 0, ([]), none, 0, ([]), none, 0, ([]), _, _, rfl, (k1.keep [28, 27, 26, 5, 4, 3, 2] (by rfl)), ns, (Heap.le_refl _), kl, j4, j5, j6, h1⟩
   ·
    rintro fl _ p1 ⟨x_v20, x_v21, x_v22, x_v23, x_v24, o, p, am, a0, y, z, ar, u, x, an, q, s, ao, hg, a4, rfl, k3, gk, ea, ap, a5, az, aq, a9⟩
    clear h1
    obtain _ | fl := fl
    ·
     rw [control_Route_ends_l2] at a9; cases a9
    rw [control_Route_ends_l2] at a9
    replace aj := aj.mono ea
    replace ak := ak.mono ea
    replace al := al.mono ea
    replace ai := ai.mono ea
    refine wp_seq (wp_region_from (R_runk 0 1 [29, 28, 27, 26, 5, 4, 3, 2] ((tB 29 (decide (x_v24 < ((r_.buses.length : Nat) : Int)))) :: (K67m14 x_v24 r_ a b o x_v20 p)) k3 gk.plOk (by kernel_rfl) fun qy gc => ?_))
    refine wpFrom_end (by decide) (wp_seq (wp_cond_sv (decide (x_v24 < ((r_.buses.length : Nat) : Int))) gc (by kernel_rfl) (fun f6 => ?_) (fun f6 => ?_)))
    ·
     rw [f6, cond_true] at a9
     refine wp_skip (wp_seq (wp_block (wp_seq (wp_region_from ?_))))
     obtain ⟨x30, ex30, a9⟩ := bnd a9
     obtain ⟨n2, n4, oh⟩ := idx_some ex30
     obtain ⟨ac, ad, qq, j1, oe, j9⟩ := ak.get (by decide) oh
     obtain ⟨_, _, rfl, rfl, ⟨_, _, rfl, rfl, rfl⟩⟩ := oe
     have iu : Mem ⟨w, h, noX⟩ a4 [(d, 0), (f, 0), (m, 0), (ac, ad + (x_v24 : Int).toNat * 3)] [⟨(K67c10 aa r_ ab a b af ag), some 43⟩, ⟨[.func l g k], some 132⟩, ⟨(K67c8 y x_v21 z u x_v22 x q x_v23 s), some 76⟩, ⟨(K67c5 x30), none⟩] [⟨o, x_v20.length, p, 3, 1, am, a0⟩, ⟨y, x_v21.length, z, 3, 1, ar, 0⟩, ⟨u, x_v22.length, x, 3, 1, an, 0⟩, ⟨q, x_v23.length, s, 31, 1, ao, 0⟩] p1 := gk.addPlc (cs := (K67c5 x30)) (fun j c hj => j9 j _ (map_get hj)) rfl (by kernel_rfl) (by kernel_rfl)
     refine R_index 0 (x_v24) rfl rfl (rfl) rfl (by decide) gc (by rfl) (by rfl) (by rfl) j1 (by rfl) n2 n4 (by kernel_rfl) fun op (k4 : Kn 74 [(d, 0), (f, 0), (m, 0), (ac, ad + (x_v24 : Int).toNat * 3)] ((tP 30 3 0) :: (tB 29 (decide (x_v24 < ((r_.buses.length : Nat) : Int)))) :: (K67m14 x_v24 r_ a b o x_v20 p)) op) => ?_
     refine R_runk 1 1 [31, 28, 27, 26, 5, 4, 3, 2] ((tA 31 (K67c5 x30)) :: (K67m14 x_v24 r_ a b o x_v20 p)) k4 iu.plOk (by kernel_rfl) fun qz k5 => ?_
     refine wpFrom_loud _ rfl (rfl) fun K hK => ?_
     refine wp_alloc [.int .i64 0, .int .i64 0, .int .i64 0] k5 iu rfl rfl (by decide) (by kernel_rfl) (by kernel_rfl) (by kernel_rfl) fun ae jo p2 (k6 : Kn 74 (K67e7 d f m ac ad x_v24 ae) ((tP 9 4 0) :: (tA 31 (K67c5 x30)) :: (K67m14 x_v24 r_ a b o x_v20 p)) jo) (nu : Mem ⟨w, h, noX⟩ a4 (K67e7 d f m ac ad x_v24 ae) [⟨(K67c10 aa r_ ab a b af ag), some 43⟩, ⟨[.func l g k], some 132⟩, ⟨(K67c8 y x_v21 z u x_v22 x q x_v23 s), some 76⟩, ⟨(K67c5 x30), none⟩, ⟨[.int .i64 0, .int .i64 0, .int .i64 0], some 96⟩] [⟨o, x_v20.length, p, 3, 1, am, a0⟩, ⟨y, x_v21.length, z, 3, 1, ar, 0⟩, ⟨u, x_v22.length, x, 3, 1, an, 0⟩, ⟨q, x_v23.length, s, 31, 1, ao, 0⟩] p2) => hK _ _ ?_
     refine wpFrom_loud _ rfl (rfl) fun K hK => ?_
     refine wp_store 4 0 (.agg (K67c5 x30)) (K67c5 x30) k6 nu rfl rfl (by rfl) (by rfl) (by rfl) (by kernel_rfl) (by kernel_rfl) (by rfl) fun fu k7 (fe : Mem ⟨w, h, noX⟩ a4 (K67e7 d f m ac ad x_v24 ae) (K67p12 aa r_ ab a b af ag l g k y x_v21 z u x_v22 x q x_v23 s x30) [⟨o, x_v20.length, p, 3, 1, am, a0⟩, ⟨y, x_v21.length, z, 3, 1, ar, 0⟩, ⟨u, x_v22.length, x, 3, 1, an, 0⟩, ⟨q, x_v23.length, s, 31, 1, ao, 0⟩] fu) => hK _ _ ?_
     have k8 : Kn 74 (K67e7 d f m ac ad x_v24 ae) ((tP 9 4 0) :: (K67m14 x_v24 r_ a b o x_v20 p)) jo := k7.keep [9, 28, 27, 26, 5, 4, 3, 2] (by rfl)
     refine wpFrom_end (by decide) (wp_region_G (by kernel_rfl) ?_)
     replace fe := fe.drew
     refine wpG_of_D [12, 14] (K67e7 d f m ac ad x_v24 ae) (K67p12 aa r_ ab a b af ag l g k y x_v21 z u x_v22 x q x_v23 s x30) ?_
     refine D_run [0, 1, 2, 3, 4, 5, 9, 10, 11, 13, 18, 19, 20] [20, 19, 18, 13, 11, 10, 9, 5, 4, 3, 2, 1, 0] [52, 51, 45, 43, 42, 37, 35, 33, 28, 27, 26, 5, 4, 3, 2] (K67m15 o x_v20 p q x_v23 s u x_v22 x x30 l g k y x_v21 z x_v24 r_ a b) (fun _ _ _ _ _ h => h) k8 fe.plOk (by kernel_rfl) (by rfl) (by kernel_rfl) fun q0 gd => ?_
     obtain ⟨x38, ex38, a9⟩ := bnd a9
     obtain ⟨x40, ex40, a9⟩ := bnd a9
     obtain ⟨x47, ex47, a9⟩ := bnd a9
     obtain ⟨x49, ex49, a9⟩ := bnd a9
     obtain ⟨x53, ex53, a9⟩ := bnd a9
     obtain ⟨x55, ex55, a9⟩ := bnd a9
     have nv : Mem ⟨w, h, noX⟩ a4 (K67e7 d f m ac ad x_v24 ae) (K67p12 aa r_ ab a b af ag l g k y x_v21 z u x_v22 x q x_v23 s x30) [⟨o, x_v20.length, p, 3, 1, am, a0⟩, ⟨y, x_v21.length, z, 3, 1, ar, 0⟩, ⟨u, x_v22.length, x, 3, 1, an, 0⟩, ⟨q, x_v23.length, s, 31, 1, ao, 0⟩, ⟨none, 0, 0, 3, 1, [], 0⟩] (World.drew fu) := fe.nilRow 3 1
     have bj : Cells a4 ([] : List Int) [] := Cells.nil
     have nw : Mem ⟨w, h, noX⟩ a4 (K67e7 d f m ac ad x_v24 ae) (K67p12 aa r_ ab a b af ag l g k y x_v21 z u x_v22 x q x_v23 s x30) [⟨o, x_v20.length, p, 3, 1, am, a0⟩, ⟨y, x_v21.length, z, 3, 1, ar, 0⟩, ⟨u, x_v22.length, x, 3, 1, an, 0⟩, ⟨q, x_v23.length, s, 31, 1, ao, 0⟩, ⟨none, 0, 0, 3, 1, [], 0⟩, ⟨none, 0, 0, 3, 1, [], 0⟩] (World.drew fu) := nv.nilRow 3 1
     have a3 : Cells a4 ([] : List Int) [] := Cells.nil
     have bk : Mem ⟨w, h, noX⟩ a4 (K67e7 d f m ac ad x_v24 ae) (K67p12 aa r_ ab a b af ag l g k y x_v21 z u x_v22 x q x_v23 s x30) (K67r13 o x_v20 p am a0 y x_v21 z ar u x_v22 x an q x_v23 s ao) (World.drew fu) := nw.nilRow 31 1
     have au : Cells a4 ([] : List (List Int)) [] := Cells.nil
     refine D_share (fun W => ∀ (a1 : Option Addr), ∀ (a2 : Nat), ∀ (ce : List Value), ∀ (ck : Option Addr), ∀ (cm : Nat), ∀ (ci : List Value), ∀ a' w', (∃ (hl : Array Value) (dy : Heap), a' = ⟨hl, []⟩ ∧ Kn 74 (K67e7 d f m ac ad x_v24 ae) (K67m16 r_ l g k a1 x40 a2 o x_v20 p q x_v23 s u x_v22 x x_v24 a b) hl ∧ Mem ⟨w, h, noX⟩ dy (K67e7 d f m ac ad x_v24 ae) (K67p12 aa r_ ab a b af ag l g k y x_v21 z u x_v22 x q x_v23 s x30) [⟨o, x_v20.length, p, 3, 1, am, a0⟩, ⟨a1, x40.length, a2, 3, 1, ce, 0⟩, ⟨u, x_v22.length, x, 3, 1, an, 0⟩, ⟨q, x_v23.length, s, 31, 1, ao, 0⟩, ⟨ck, 1, cm, 3, 1, ci, 0⟩, ⟨none, 0, 0, 3, 1, [], 0⟩, ⟨none, 0, 0, 31, 1, [], 0⟩] w' ∧ Heap.le a4 dy ∧ Cells dy x40 ce ∧ Cells dy ([x38] : List Int) ci) → W (K67e7 d f m ac ad x_v24 ae) (K67p12 aa r_ ab a b af ag l g k y x_v21 z u x_v22 x q x_v23 s x30) [24, 8, 7, 6, 12, 14, 20, 19, 18, 13, 11, 10, 9, 5, 4, 3, 2, 1, 0] a' w') ?_ (fun hb => ?_)
     ·
      intro a1 a2 ce ck cm ci
      rintro _ ro ⟨hl, dy, rfl, la, iv, cn, dk, d7⟩
      replace aj := aj.mono cn
      replace ak := ak.mono cn
      replace al := al.mono cn
      replace ai := ai.mono cn
      replace ap := ap.mono cn
      replace az := az.mono cn
      replace aq := aq.mono cn
      replace a3 := a3.mono cn
      replace au := au.mono cn
      refine D_loud 15 rfl (by kernel_rfl) (by decide) (rfl) fun K hK => ?_
      refine wp_callV (.func l g k) [.agg (K67c3 r_)] _ la iv rfl rfl (by decide) (by rfl) (by rfl) rfl (ai _ _ (Heap.le_refl _) iv.has r_.turn _ ((rep_pair rep_int rep_int) : rep dy r_.turn _) _ ex47) fun rg en rp jt b5 iw => ?_
      replace aj := aj.mono b5
      replace ak := ak.mono b5
      replace al := al.mono b5
      replace ai := ai.mono b5
      replace ap := ap.mono b5
      replace dk := dk.mono b5
      replace az := az.mono b5
      replace aq := aq.mono b5
      replace d7 := d7.mono b5
      replace a3 := a3.mono b5
      replace au := au.mono b5
      obtain rfl := jt
      refine ⟨.one (.c (.int .i64 x47)), rfl, fun os (lb : Kn 74 (K67e7 d f m ac ad x_v24 ae) ((tI 47 x47) :: (K67m16 r_ l g k a1 x40 a2 o x_v20 p q x_v23 s u x_v22 x x_v24 a b)) os) => hK _ _ iw.plOk ?_⟩
      refine D_loud 16 rfl (by kernel_rfl) (by decide) (rfl) fun K hK => ?_
      refine wp_buildSlice_at 5 rfl rfl 3 1 [.int .i64 x47] lb iw rfl rfl (by decide) (by kernel_rfl) (by rfl) (by rfl) rfl (by decide) fun bu ot p4 (lc : Kn 74 (K67e7 d f m ac ad x_v24 ae) ((tS 48 bu 1 1) :: (tI 47 x47) :: (K67m16 r_ l g k a1 x40 a2 o x_v20 p q x_v23 s u x_v22 x x_v24 a b)) ot) (gl : Mem ⟨w, h, noX⟩ en (K67e7 d f m ac ad x_v24 ae) (K67p12 aa r_ ab a b af ag l g k y x_v21 z u x_v22 x q x_v23 s x30) [⟨o, x_v20.length, p, 3, 1, am, a0⟩, ⟨a1, x40.length, a2, 3, 1, ce, 0⟩, ⟨u, x_v22.length, x, 3, 1, an, 0⟩, ⟨q, x_v23.length, s, 31, 1, ao, 0⟩, ⟨ck, 1, cm, 3, 1, ci, 0⟩, ⟨bu, 1, 1, 3, 1, ([.int .i64 x47] : List Value), 0⟩, ⟨none, 0, 0, 31, 1, [], 0⟩] p4) => ?_
      have dl : Cells en ([x47] : List Int) ([.int .i64 x47] : List Value) := ⟨_, _, rfl, (rep_int : rep en (x47 : Int) _), rfl⟩
      refine hK _ _ gl.plOk ?_
      refine D_loud 17 rfl (by kernel_rfl) (by decide) (rfl) fun K hK => ?_
      obtain ⟨g4, ni⟩ := app_some ex49
      refine wp_append 2 8 1 _ (x49.length) _ ([.int .i64 x47] : List Value) lc gl rfl rfl (by decide) rfl (by rfl) (by kernel_rfl) (by rfl) (by rfl) (Cells.len dl) (gl.rowCell (i := 5) rfl) dl.one (by rw [g4]; simp) (by rw [g4]; exact ni) (by decide) fun ba bb h5 ou jr kq (ld : Kn 74 [(d, 0), (f, 0), (m, 0), (ac, ad + (x_v24 : Int).toNat * 3), (ae, 0)] [(49, .one (.c (.slice ba x49.length bb))), (48, .one (.c (.slice bu 1 1))), (47, .one (.c (.int .i64 x47))), (46, .one (.agg [.int .i64 r_.turn.lo, .int .i64 r_.turn.hi])), (44, .one (.c (.func l g k))), (56, .one (.c (.ptr 2 0))), (40, .one (.c (.slice a1 x40.length a2))), (52, .one (.c (.slice o x_v20.length p))), (51, .one (.c (.slice q x_v23.length s))), (42, .one (.c (.slice u x_v22.length x))), (28, .one (.c (.int .i64 x_v24))), (27, .one (.c (.int .i64 ((r_.buses.length : Nat) : Int)))), (26, .one (.c (.slice a r_.buses.length b))), (5, .one (.c (.slice o x_v20.length p))), (4, .one (.c (.ptr 2 0))), (3, .one (.c (.ptr 1 0))), (2, .one (.c (.ptr 0 0)))] ou) (gm : Mem ⟨w, h, noX⟩ en [(d, 0), (f, 0), (m, 0), (ac, ad + (x_v24 : Int).toNat * 3), (ae, 0)] [⟨[.slice aa r_.legs.length ab, .int .i64 r_.turn.lo, .int .i64 r_.turn.hi, .slice a r_.buses.length b, .slice af r_.spares.length ag, .int .i64 r_.unit, .int .i64 r_.gap, .int .i64 r_.fr, .int .i64 r_.to_], some 43⟩, ⟨[.func l g k], some 132⟩, ⟨[.slice y x_v21.length z, .slice u x_v22.length x, .slice q x_v23.length s], some 76⟩, ⟨[.int .i64 x30.stop, .int .i64 x30.tm.lo, .int .i64 x30.tm.hi], none⟩, ⟨[.int .i64 x30.stop, .int .i64 x30.tm.lo, .int .i64 x30.tm.hi], some 96⟩] [⟨o, x_v20.length, p, 3, 1, am, a0⟩, ⟨a1, x40.length, a2, 3, 1, ce, 0⟩, ⟨ba, x49.length, bb, 3, 1, (an ++ ([.int .i64 x47] : List Value)), h5⟩, ⟨q, x_v23.length, s, 31, 1, ao, 0⟩, ⟨ck, 1, cm, 3, 1, ci, 0⟩, ⟨bu, 1, 1, 3, 1, ([.int .i64 x47] : List Value), 0⟩, ⟨none, 0, 0, 31, 1, [], 0⟩] jr) => ?_
      have eu : Cells en x49 (an ++ ([.int .i64 x47] : List Value)) := by rw [g4]; exact Cells.append az dl
      obtain rfl : h5 = 0 := Nat.le_zero.1 kq
      refine hK _ _ gm.plOk ?_
      refine D_loud 21 rfl (by kernel_rfl) (by decide) (rfl) fun K hK => ?_
      obtain ⟨ic, b6, n9, ff⟩ := gm.settle (i := 0) rfl
      replace aj := aj.mono b6
      replace ak := ak.mono b6
      replace al := al.mono b6
      replace ai := ai.mono b6
      replace ap := ap.mono b6
      replace dk := dk.mono b6
      replace eu := eu.mono b6
      replace aq := aq.mono b6
      replace d7 := d7.mono b6
      replace dl := dl.mono b6
      replace au := au.mono b6
      replace ff : Mem ⟨w, h, noX⟩ ic (K67e7 d f m ac ad x_v24 ae) (K67p12 aa r_ ab a b af ag l g k y x_v21 z u x_v22 x q x_v23 s x30) [⟨o, x_v20.length, p, 3, 1, am, (am : List Value).length⟩, ⟨a1, x40.length, a2, 3, 1, ce, 0⟩, ⟨ba, x49.length, bb, 3, 1, (an ++ ([.int .i64 x47] : List Value)), 0⟩, ⟨q, x_v23.length, s, 31, 1, ao, 0⟩, ⟨ck, 1, cm, 3, 1, ci, 0⟩, ⟨bu, 1, 1, 3, 1, ([.int .i64 x47] : List Value), 0⟩, ⟨none, 0, 0, 31, 1, [], 0⟩] jr := ff
      have g0 : RepS ic o p x_v20 := ⟨_, ap, n9, gm.rowCap (i := 0) rfl⟩
      refine wp_call [.c (.slice o x_v20.length p)] _ ld ff rfl rfl (by decide) (by rfl) rfl (fun _ _ => by kernel_rfl) (slices_Clone_int_int_ok fl ff.has x_v20 g0 ex53) fun rh da rq ju bx ix => ?_
      replace aj := aj.mono bx
      replace ak := ak.mono bx
      replace al := al.mono bx
      replace ai := ai.mono bx
      replace g0 := g0.mono bx
      replace ap := ap.mono bx
      replace dk := dk.mono bx
      replace eu := eu.mono bx
      replace aq := aq.mono bx
      replace d7 := d7.mono bx
      replace dl := dl.mono bx
      replace au := au.mono bx
      obtain ⟨be, bg, rfl, n6⟩ := ju
      refine ⟨.one (.c (.slice be x53.length bg)), rfl, fun ov (lf : Kn 74 (K67e7 d f m ac ad x_v24 ae) ((tS 53 be x53.length bg) :: (tS 49 ba x49.length bb) :: (tS 48 bu 1 1) :: (tI 47 x47) :: (K67m16 r_ l g k a1 x40 a2 o x_v20 p q x_v23 s u x_v22 x x_v24 a b)) ov) => hK _ _ ix.plOk ?_⟩
      refine D_loud 22 rfl (by kernel_rfl) (by decide) (rfl) fun K hK => ?_
      refine wp_buildSlice_at 6 rfl rfl 31 1 [.slice be x53.length bg] lf ix rfl rfl (by decide) (by kernel_rfl) (by rfl) (by rfl) rfl (by decide) fun dh ow p5 (lh : Kn 74 (K67e7 d f m ac ad x_v24 ae) ((tS 54 dh 1 1) :: (tS 53 be x53.length bg) :: (tS 49 ba x49.length bb) :: (tS 48 bu 1 1) :: (tI 47 x47) :: (K67m16 r_ l g k a1 x40 a2 o x_v20 p q x_v23 s u x_v22 x x_v24 a b)) ow) (gn : Mem ⟨w, h, noX⟩ da (K67e7 d f m ac ad x_v24 ae) (K67p12 aa r_ ab a b af ag l g k y x_v21 z u x_v22 x q x_v23 s x30) [⟨o, x_v20.length, p, 3, 1, am, (am : List Value).length⟩, ⟨a1, x40.length, a2, 3, 1, ce, 0⟩, ⟨ba, x49.length, bb, 3, 1, (an ++ ([.int .i64 x47] : List Value)), 0⟩, ⟨q, x_v23.length, s, 31, 1, ao, 0⟩, ⟨ck, 1, cm, 3, 1, ci, 0⟩, ⟨bu, 1, 1, 3, 1, ([.int .i64 x47] : List Value), 0⟩, ⟨dh, 1, 1, 31, 1, ([.slice be x53.length bg] : List Value), 0⟩] p5) => ?_
      have f9 : Cells da ([x53] : List (List Int)) ([.slice be x53.length bg] : List Value) := ⟨_, _, rfl, ((rep_slice n6) : rep da (x53 : List Int) _), rfl⟩
      refine hK _ _ gn.plOk ?_
      refine D_loud 23 rfl (by kernel_rfl) (by decide) (rfl) fun K hK => ?_
      obtain ⟨g5, nj⟩ := app_some ex55
      refine wp_append 3 24 1 _ (x55.length) _ ([.slice be x53.length bg] : List Value) lh gn rfl rfl (by decide) rfl (by rfl) (by kernel_rfl) (by rfl) (by rfl) (Cells.len f9) (gn.rowCell (i := 6) rfl) f9.one (by rw [g5]; simp) (by rw [g5]; exact nj) (by decide) fun b2 b3 h6 ox p6 kr (li : Kn 74 [(d, 0), (f, 0), (m, 0), (ac, ad + (x_v24 : Int).toNat * 3), (ae, 0)] [(55, .one (.c (.slice b2 x55.length b3))), (54, .one (.c (.slice dh 1 1))), (53, .one (.c (.slice be x53.length bg))), (49, .one (.c (.slice ba x49.length bb))), (48, .one (.c (.slice bu 1 1))), (47, .one (.c (.int .i64 x47))), (46, .one (.agg [.int .i64 r_.turn.lo, .int .i64 r_.turn.hi])), (44, .one (.c (.func l g k))), (56, .one (.c (.ptr 2 0))), (40, .one (.c (.slice a1 x40.length a2))), (52, .one (.c (.slice o x_v20.length p))), (51, .one (.c (.slice q x_v23.length s))), (42, .one (.c (.slice u x_v22.length x))), (28, .one (.c (.int .i64 x_v24))), (27, .one (.c (.int .i64 ((r_.buses.length : Nat) : Int)))), (26, .one (.c (.slice a r_.buses.length b))), (5, .one (.c (.slice o x_v20.length p))), (4, .one (.c (.ptr 2 0))), (3, .one (.c (.ptr 1 0))), (2, .one (.c (.ptr 0 0)))] ox) (iy : Mem ⟨w, h, noX⟩ da [(d, 0), (f, 0), (m, 0), (ac, ad + (x_v24 : Int).toNat * 3), (ae, 0)] [⟨[.slice aa r_.legs.length ab, .int .i64 r_.turn.lo, .int .i64 r_.turn.hi, .slice a r_.buses.length b, .slice af r_.spares.length ag, .int .i64 r_.unit, .int .i64 r_.gap, .int .i64 r_.fr, .int .i64 r_.to_], some 43⟩, ⟨[.func l g k], some 132⟩, ⟨[.slice y x_v21.length z, .slice u x_v22.length x, .slice q x_v23.length s], some 76⟩, ⟨[.int .i64 x30.stop, .int .i64 x30.tm.lo, .int .i64 x30.tm.hi], none⟩, ⟨[.int .i64 x30.stop, .int .i64 x30.tm.lo, .int .i64 x30.tm.hi], some 96⟩] [⟨o, x_v20.length, p, 3, 1, am, (am : List Value).length⟩, ⟨a1, x40.length, a2, 3, 1, ce, 0⟩, ⟨ba, x49.length, bb, 3, 1, (an ++ ([.int .i64 x47] : List Value)), 0⟩, ⟨b2, x55.length, b3, 31, 1, (ao ++ ([.slice be x53.length bg] : List Value)), h6⟩, ⟨ck, 1, cm, 3, 1, ci, 0⟩, ⟨bu, 1, 1, 3, 1, ([.int .i64 x47] : List Value), 0⟩, ⟨dh, 1, 1, 31, 1, ([.slice be x53.length bg] : List Value), 0⟩] p6) => ?_
      have ka : Cells da x55 (ao ++ ([.slice be x53.length bg] : List Value)) := by rw [g5]; exact Cells.append aq f9
      obtain rfl : h6 = 0 := Nat.le_zero.1 kr
      refine hK _ _ iy.plOk ?_
      refine D_sync 25 rfl (by kernel_rfl) (by decide) (rfl) (by kernel_rfl) fun K hK => ?_
      refine wp_store 2 0 (.c (.slice a1 x40.length a2)) [.slice a1 x40.length a2, .slice u x_v22.length x, .slice q x_v23.length s] li iy rfl rfl (by rfl) (by rfl) (by rfl) (by kernel_rfl) (by kernel_rfl) (by rfl) fun p7 lj (iz : Mem ⟨w, h, noX⟩ da (K67e7 d f m ac ad x_v24 ae) [⟨(K67c10 aa r_ ab a b af ag), some 43⟩, ⟨[.func l g k], some 132⟩, ⟨[.slice a1 x40.length a2, .slice u x_v22.length x, .slice q x_v23.length s], some 76⟩, ⟨(K67c5 x30), none⟩, ⟨(K67c5 x30), some 96⟩] [⟨o, x_v20.length, p, 3, 1, am, (am : List Value).length⟩, ⟨a1, x40.length, a2, 3, 1, ce, 0⟩, ⟨ba, x49.length, bb, 3, 1, (an ++ ([.int .i64 x47] : List Value)), 0⟩, ⟨b2, x55.length, b3, 31, 1, (ao ++ ([.slice be x53.length bg] : List Value)), 0⟩, ⟨ck, 1, cm, 3, 1, ci, 0⟩, ⟨bu, 1, 1, 3, 1, ([.int .i64 x47] : List Value), 0⟩, ⟨dh, 1, 1, 31, 1, ([.slice be x53.length bg] : List Value), 0⟩] p7) => hK _ _ ?_
      refine wpG_of_D [12, 14] (K67e7 d f m ac ad x_v24 ae) [⟨(K67c10 aa r_ ab a b af ag), some 43⟩, ⟨[.func l g k], some 132⟩, ⟨[.slice a1 x40.length a2, .slice u x_v22.length x, .slice q x_v23.length s], some 76⟩, ⟨(K67c5 x30), none⟩, ⟨(K67c5 x30), some 96⟩] ?_
      refine D_run [26] [26, 25, 23, 22, 21, 17, 16, 15, 24, 8, 7, 6, 12, 14, 20, 19, 18, 13, 11, 10, 9, 5, 4, 3, 2, 1, 0] [57, 55, 49, 28, 27, 26, 5, 4, 3, 2] ((tP 57 2 1) :: (tS 55 b2 x55.length b3) :: (tS 49 ba x49.length bb) :: (K67m14 x_v24 r_ a b o x_v20 p)) (fun _ _ _ _ _ h => h) lj iz.plOk (by kernel_rfl) (by rfl) (by kernel_rfl) fun q1 lk => ?_
      refine D_sync 27 rfl (by kernel_rfl) (by decide) (rfl) (by kernel_rfl) fun K hK => ?_
      refine wp_store 2 1 (.c (.slice ba x49.length bb)) [.slice a1 x40.length a2, .slice ba x49.length bb, .slice q x_v23.length s] lk iz rfl rfl (by rfl) (by rfl) (by rfl) (by kernel_rfl) (by kernel_rfl) (by rfl) fun p8 lm (i0 : Mem ⟨w, h, noX⟩ da (K67e7 d f m ac ad x_v24 ae) [⟨(K67c10 aa r_ ab a b af ag), some 43⟩, ⟨[.func l g k], some 132⟩, ⟨[.slice a1 x40.length a2, .slice ba x49.length bb, .slice q x_v23.length s], some 76⟩, ⟨(K67c5 x30), none⟩, ⟨(K67c5 x30), some 96⟩] [⟨o, x_v20.length, p, 3, 1, am, (am : List Value).length⟩, ⟨a1, x40.length, a2, 3, 1, ce, 0⟩, ⟨ba, x49.length, bb, 3, 1, (an ++ ([.int .i64 x47] : List Value)), 0⟩, ⟨b2, x55.length, b3, 31, 1, (ao ++ ([.slice be x53.length bg] : List Value)), 0⟩, ⟨ck, 1, cm, 3, 1, ci, 0⟩, ⟨bu, 1, 1, 3, 1, ([.int .i64 x47] : List Value), 0⟩, ⟨dh, 1, 1, 31, 1, ([.slice be x53.length bg] : List Value), 0⟩] p8) => hK _ _ ?_
      refine wpG_of_D [12, 14] (K67e7 d f m ac ad x_v24 ae) [⟨(K67c10 aa r_ ab a b af ag), some 43⟩, ⟨[.func l g k], some 132⟩, ⟨[.slice a1 x40.length a2, .slice ba x49.length bb, .slice q x_v23.length s], some 76⟩, ⟨(K67c5 x30), none⟩, ⟨(K67c5 x30), some 96⟩] ?_
      refine D_run [28] [28, 27, 26, 25, 23, 22, 21, 17, 16, 15, 24, 8, 7, 6, 12, 14, 20, 19, 18, 13, 11, 10, 9, 5, 4, 3, 2, 1, 0] [58, 55, 28, 27, 26, 5, 4, 3, 2] ((tP 58 2 2) :: (tS 55 b2 x55.length b3) :: (K67m14 x_v24 r_ a b o x_v20 p)) (fun _ _ _ _ _ h => h) lm i0.plOk (by kernel_rfl) (by rfl) (by kernel_rfl) fun oy ln => ?_
      refine D_sync 29 rfl (by kernel_rfl) (by decide) (rfl) (by kernel_rfl) fun K hK => ?_
      refine wp_store 2 2 (.c (.slice b2 x55.length b3)) [.slice a1 x40.length a2, .slice ba x49.length bb, .slice b2 x55.length b3] ln i0 rfl rfl (by rfl) (by rfl) (by rfl) (by kernel_rfl) (by kernel_rfl) (by rfl) fun p9 lp (i1 : Mem ⟨w, h, noX⟩ da (K67e7 d f m ac ad x_v24 ae) [⟨(K67c10 aa r_ ab a b af ag), some 43⟩, ⟨[.func l g k], some 132⟩, ⟨[.slice a1 x40.length a2, .slice ba x49.length bb, .slice b2 x55.length b3], some 76⟩, ⟨(K67c5 x30), none⟩, ⟨(K67c5 x30), some 96⟩] [⟨o, x_v20.length, p, 3, 1, am, (am : List Value).length⟩, ⟨a1, x40.length, a2, 3, 1, ce, 0⟩, ⟨ba, x49.length, bb, 3, 1, (an ++ ([.int .i64 x47] : List Value)), 0⟩, ⟨b2, x55.length, b3, 31, 1, (ao ++ ([.slice be x53.length bg] : List Value)), 0⟩, ⟨ck, 1, cm, 3, 1, ci, 0⟩, ⟨bu, 1, 1, 3, 1, ([.int .i64 x47] : List Value), 0⟩, ⟨dh, 1, 1, 31, 1, ([.slice be x53.length bg] : List Value), 0⟩] p9) => hK _ _ ?_
      refine wpG_of_D [12, 14] (K67e7 d f m ac ad x_v24 ae) [⟨(K67c10 aa r_ ab a b af ag), some 43⟩, ⟨[.func l g k], some 132⟩, ⟨[.slice a1 x40.length a2, .slice ba x49.length bb, .slice b2 x55.length b3], some 76⟩, ⟨(K67c5 x30), none⟩, ⟨(K67c5 x30), some 96⟩] ?_
      have lq : Kn 74 (K67e7 d f m ac ad x_v24 ae) (K67m14 x_v24 r_ a b o x_v20 p) oy := lp.keep [28, 27, 26, 5, 4, 3, 2] (by rfl)
      refine wpD_end (by kernel_rfl) (wp_region_from (R_runk 0 2 [28, 27, 26, 5, 4, 3, 2] [(tI 28 (IntKind.i64.wrap (x_v24 + 1))), (tI 27 ((r_.buses.length : Nat) : Int)), (tS 26 a r_.buses.length b), (tS 5 o x_v20.length p), (tP 4 2 0), (tP 3 1 0), (tP 2 0 0)] lq i1.plOk (by kernel_rfl) fun q2 lr => ?_))
      refine wpFrom_end (by decide) ?_
      exact Exists.intro fl ⟨Nat.lt_succ_self _, Exists.intro x_v20 ⟨x40, x49, x55, (IntKind.i64.wrap (x_v24 + 1)), o, p, am, ((am : List Value).length), a1, a2, ce, ba, bb, (an ++ ([.int .i64 x47] : List Value)), b2, b3, (ao ++ ([.slice be x53.length bg] : List Value)), _, _, rfl, ((lr.keep [28, 27, 26, 5, 4, 3, 2] (by rfl)).cut 3 (by kernel_rfl)), ((i1.cutRw 4).cutPl 3 (by kernel_rfl)), (Heap.le_trans ea (Heap.le_trans cn (Heap.le_trans b5 (Heap.le_trans b6 bx)))), ap, dk, eu, ka, a9⟩⟩
     refine D_share (fun W => ∀ (eg : Option Addr), ∀ (el : Nat), ∀ (fp : List Value), ∀ (fw : Option Addr), ∀ (f1 : Nat), ∀ (fq : List Value), ∀ a' w', (∃ (hn : Array Value) (eo : Heap), a' = ⟨hn, []⟩ ∧ Kn 74 (K67e7 d f m ac ad x_v24 ae) ((44, .one (.c (.func l g k))) :: (tP 56 2 0) :: (tS 40 eg x40.length el) :: (tS 52 o x_v20.length p) :: (tS 51 q x_v23.length s) :: (tP 45 0 1) :: (tS 42 u x_v22.length x) :: (K67m14 x_v24 r_ a b o x_v20 p)) hn ∧ Mem ⟨w, h, noX⟩ eo (K67e7 d f m ac ad x_v24 ae) (K67p12 aa r_ ab a b af ag l g k y x_v21 z u x_v22 x q x_v23 s x30) [⟨o, x_v20.length, p, 3, 1, am, a0⟩, ⟨eg, x40.length, el, 3, 1, fp, 0⟩, ⟨u, x_v22.length, x, 3, 1, an, 0⟩, ⟨q, x_v23.length, s, 31, 1, ao, 0⟩, ⟨fw, 1, f1, 3, 1, fq, 0⟩, ⟨none, 0, 0, 3, 1, [], 0⟩, ⟨none, 0, 0, 31, 1, [], 0⟩] w' ∧ Heap.le a4 eo ∧ Cells eo x40 fp ∧ Cells eo ([x38] : List Int) fq) → W (K67e7 d f m ac ad x_v24 ae) (K67p12 aa r_ ab a b af ag l g k y x_v21 z u x_v22 x q x_v23 s x30) [24, 8, 7, 6, 12, 20, 19, 18, 13, 11, 10, 9, 5, 4, 3, 2, 1, 0] a' w') ?_ (fun jh => ?_)
     ·
      intro eg el fp fw f1 fq
      rintro _ rr ⟨hn, eo, rfl, lu, gp, co, kb, kc⟩
      replace aj := aj.mono co
      replace ak := ak.mono co
      replace al := al.mono co
      replace ai := ai.mono co
      replace ap := ap.mono co
      replace az := az.mono co
      replace aq := aq.mono co
      replace a3 := a3.mono co
      replace au := au.mono co
      refine D_loud 14 rfl (by kernel_rfl) (by decide) (rfl) fun K hK => ?_
      refine wp_quiet lu gp.plOk rfl (by decide) (by kernel_rfl) fun oz (lv : Kn 74 (K67e7 d f m ac ad x_v24 ae) ((tA 46 (K67c3 r_)) :: (44, .one (.c (.func l g k))) :: (tP 56 2 0) :: (tS 40 eg x40.length el) :: (tS 52 o x_v20.length p) :: (tS 51 q x_v23.length s) :: (tP 45 0 1) :: (tS 42 u x_v22.length x) :: (K67m14 x_v24 r_ a b o x_v20 p)) oz) => hK _ _ gp.plOk ?_
      refine D_perm [24, 8, 7, 6, 12, 14, 20, 19, 18, 13, 11, 10, 9, 5, 4, 3, 2, 1, 0] (by kernel_rfl) (by rfl) (hb eg el fp fw f1 fq _ _ ?_)
      exact Exists.intro _ ⟨_, rfl, (lv.keep [46, 44, 56, 40, 52, 51, 42, 28, 27, 26, 5, 4, 3, 2] (by rfl)), gp, co, kb, kc⟩
     refine D_share (fun W => ∀ (eh : Option Addr), ∀ (em : Nat), ∀ (fs : List Value), ∀ (fx : Option Addr), ∀ (f2 : Nat), ∀ (ft : List Value), ∀ a' w', (∃ (ho : Array Value) (ep : Heap), a' = ⟨ho, []⟩ ∧ Kn 74 (K67e7 d f m ac ad x_v24 ae) ((tA 46 (K67c3 r_)) :: (tP 56 2 0) :: (tS 40 eh x40.length em) :: (tS 52 o x_v20.length p) :: (tS 51 q x_v23.length s) :: (tP 43 1 0) :: (tS 42 u x_v22.length x) :: (K67m14 x_v24 r_ a b o x_v20 p)) ho ∧ Mem ⟨w, h, noX⟩ ep (K67e7 d f m ac ad x_v24 ae) (K67p12 aa r_ ab a b af ag l g k y x_v21 z u x_v22 x q x_v23 s x30) [⟨o, x_v20.length, p, 3, 1, am, a0⟩, ⟨eh, x40.length, em, 3, 1, fs, 0⟩, ⟨u, x_v22.length, x, 3, 1, an, 0⟩, ⟨q, x_v23.length, s, 31, 1, ao, 0⟩, ⟨fx, 1, f2, 3, 1, ft, 0⟩, ⟨none, 0, 0, 3, 1, [], 0⟩, ⟨none, 0, 0, 31, 1, [], 0⟩] w' ∧ Heap.le a4 ep ∧ Cells ep x40 fs ∧ Cells ep ([x38] : List Int) ft) → W (K67e7 d f m ac ad x_v24 ae) (K67p12 aa r_ ab a b af ag l g k y x_v21 z u x_v22 x q x_v23 s x30) [24, 8, 7, 6, 14, 20, 19, 18, 13, 11, 10, 9, 5, 4, 3, 2, 1, 0] a' w') ?_ (fun ji => ?_)
     ·
      intro eh em fs fx f2 ft
      rintro _ rs ⟨ho, ep, rfl, lx, gq, cp, kd, ke⟩
      replace aj := aj.mono cp
      replace ak := ak.mono cp
      replace al := al.mono cp
      replace ai := ai.mono cp
      replace ap := ap.mono cp
      replace az := az.mono cp
      replace aq := aq.mono cp
      replace a3 := a3.mono cp
      replace au := au.mono cp
      refine D_loud 12 rfl (by kernel_rfl) (by decide) (rfl) fun K hK => ?_
      refine wp_quiet lx gq.plOk rfl (by decide) (by kernel_rfl) fun o0 (ly : Kn 74 (K67e7 d f m ac ad x_v24 ae) ((44, .one (.c (.func l g k))) :: (tA 46 (K67c3 r_)) :: (tP 56 2 0) :: (tS 40 eh x40.length em) :: (tS 52 o x_v20.length p) :: (tS 51 q x_v23.length s) :: (tP 43 1 0) :: (tS 42 u x_v22.length x) :: (K67m14 x_v24 r_ a b o x_v20 p)) o0) => hK _ _ gq.plOk ?_
      refine D_perm [24, 8, 7, 6, 12, 14, 20, 19, 18, 13, 11, 10, 9, 5, 4, 3, 2, 1, 0] (by kernel_rfl) (by rfl) (hb eh em fs fx f2 ft _ _ ?_)
      exact Exists.intro _ ⟨_, rfl, (ly.keep [46, 44, 56, 40, 52, 51, 42, 28, 27, 26, 5, 4, 3, 2] (by rfl)), gq, cp, kd, ke⟩
     refine D_share (fun W => ∀ (dt : Option Addr), ∀ (dv : Nat), ∀ (c1 : List Value), ∀ a' w', (∃ (hp : Array Value) (dz : Heap), a' = ⟨hp, []⟩ ∧ Kn 74 (K67e7 d f m ac ad x_v24 ae) ((tA 46 (K67c3 r_)) :: (44, .one (.c (.func l g k))) :: (tS 39 dt 1 dv) :: (tS 52 o x_v20.length p) :: (tS 51 q x_v23.length s) :: (K67m18 u x_v22 x y x_v21 z x_v24 r_ a b o x_v20 p)) hp ∧ Mem ⟨w, h, noX⟩ dz (K67e7 d f m ac ad x_v24 ae) (K67p12 aa r_ ab a b af ag l g k y x_v21 z u x_v22 x q x_v23 s x30) [⟨o, x_v20.length, p, 3, 1, am, a0⟩, ⟨y, x_v21.length, z, 3, 1, ar, 0⟩, ⟨u, x_v22.length, x, 3, 1, an, 0⟩, ⟨q, x_v23.length, s, 31, 1, ao, 0⟩, ⟨dt, 1, dv, 3, 1, c1, 0⟩, ⟨none, 0, 0, 3, 1, [], 0⟩, ⟨none, 0, 0, 31, 1, [], 0⟩] w' ∧ Heap.le a4 dz ∧ Cells dz ([x38] : List Int) c1) → W (K67e7 d f m ac ad x_v24 ae) (K67p12 aa r_ ab a b af ag l g k y x_v21 z u x_v22 x q x_v23 s x30) [7, 6, 12, 14, 20, 19, 18, 13, 11, 10, 9, 5, 4, 3, 2, 1, 0] a' w') ?_ (fun hc => ?_)
     ·
      intro dt dv c1
      rintro _ rt ⟨hp, dz, rfl, lz, i2, ch, fa⟩
      replace aj := aj.mono ch
      replace ak := ak.mono ch
      replace al := al.mono ch
      replace ai := ai.mono ch
      replace ap := ap.mono ch
      replace a5 := a5.mono ch
      replace az := az.mono ch
      replace aq := aq.mono ch
      replace a3 := a3.mono ch
      replace au := au.mono ch
      refine D_loud 8 rfl (by kernel_rfl) (by decide) (rfl) fun K hK => ?_
      obtain ⟨g6, nk⟩ := app_some ex40
      refine wp_append 1 8 1 _ (x40.length) _ c1 lz i2 rfl rfl (by decide) rfl (by rfl) (by kernel_rfl) (by rfl) (by rfl) (Cells.len fa) (i2.rowCell (i := 4) rfl) fa.one (by rw [g6]; simp) (by rw [g6]; exact nk) (by decide) fun e1 e6 h7 o1 qa ks (l0 : Kn 74 [(d, 0), (f, 0), (m, 0), (ac, ad + (x_v24 : Int).toNat * 3), (ae, 0)] [(40, .one (.c (.slice e1 x40.length e6))), (46, .one (.agg [.int .i64 r_.turn.lo, .int .i64 r_.turn.hi])), (44, .one (.c (.func l g k))), (39, .one (.c (.slice dt 1 dv))), (52, .one (.c (.slice o x_v20.length p))), (51, .one (.c (.slice q x_v23.length s))), (42, .one (.c (.slice u x_v22.length x))), (33, .one (.c (.slice y x_v21.length z))), (28, .one (.c (.int .i64 x_v24))), (27, .one (.c (.int .i64 ((r_.buses.length : Nat) : Int)))), (26, .one (.c (.slice a r_.buses.length b))), (5, .one (.c (.slice o x_v20.length p))), (4, .one (.c (.ptr 2 0))), (3, .one (.c (.ptr 1 0))), (2, .one (.c (.ptr 0 0)))] o1) (gr : Mem ⟨w, h, noX⟩ dz [(d, 0), (f, 0), (m, 0), (ac, ad + (x_v24 : Int).toNat * 3), (ae, 0)] [⟨[.slice aa r_.legs.length ab, .int .i64 r_.turn.lo, .int .i64 r_.turn.hi, .slice a r_.buses.length b, .slice af r_.spares.length ag, .int .i64 r_.unit, .int .i64 r_.gap, .int .i64 r_.fr, .int .i64 r_.to_], some 43⟩, ⟨[.func l g k], some 132⟩, ⟨[.slice y x_v21.length z, .slice u x_v22.length x, .slice q x_v23.length s], some 76⟩, ⟨[.int .i64 x30.stop, .int .i64 x30.tm.lo, .int .i64 x30.tm.hi], none⟩, ⟨[.int .i64 x30.stop, .int .i64 x30.tm.lo, .int .i64 x30.tm.hi], some 96⟩] [⟨o, x_v20.length, p, 3, 1, am, a0⟩, ⟨e1, x40.length, e6, 3, 1, (ar ++ c1), h7⟩, ⟨u, x_v22.length, x, 3, 1, an, 0⟩, ⟨q, x_v23.length, s, 31, 1, ao, 0⟩, ⟨dt, 1, dv, 3, 1, c1, 0⟩, ⟨none, 0, 0, 3, 1, [], 0⟩, ⟨none, 0, 0, 31, 1, [], 0⟩] qa) => ?_
      have kg : Cells dz x40 (ar ++ c1) := by rw [g6]; exact Cells.append a5 fa
      obtain rfl : h7 = 0 := Nat.le_zero.1 ks
      refine hK _ _ gr.plOk ?_
      refine D_run [24] [24, 8, 7, 6, 12, 14, 20, 19, 18, 13, 11, 10, 9, 5, 4, 3, 2, 1, 0] [56, 40, 46, 44, 52, 51, 42, 28, 27, 26, 5, 4, 3, 2] ((tP 56 2 0) :: (tS 40 e1 x40.length e6) :: (tA 46 (K67c3 r_)) :: (44, .one (.c (.func l g k))) :: (tS 52 o x_v20.length p) :: (tS 51 q x_v23.length s) :: (tS 42 u x_v22.length x) :: (K67m14 x_v24 r_ a b o x_v20 p)) (fun _ _ _ _ _ h => h) l0 gr.plOk (by kernel_rfl) (by rfl) (by kernel_rfl) fun q5 l1 => ?_
      refine D_perm [24, 8, 7, 6, 12, 14, 20, 19, 18, 13, 11, 10, 9, 5, 4, 3, 2, 1, 0] (by kernel_rfl) (by rfl) (hb e1 e6 (ar ++ c1) dt dv c1 _ _ ?_)
      exact Exists.intro _ ⟨_, rfl, (l1.keep [46, 44, 56, 40, 52, 51, 42, 28, 27, 26, 5, 4, 3, 2] (by rfl)), gr, ch, kg, fa⟩
     refine D_share (fun W => ∀ (c2 : Option Addr), ∀ (c6 : Nat), ∀ (ct : List Value), ∀ a' w', (∃ (hq : Array Value) (d0 : Heap), a' = ⟨hq, []⟩ ∧ Kn 74 (K67e7 d f m ac ad x_v24 ae) ((44, .one (.c (.func l g k))) :: (tS 39 c2 1 c6) :: (tS 52 o x_v20.length p) :: (tS 51 q x_v23.length s) :: (tP 45 0 1) :: (K67m18 u x_v22 x y x_v21 z x_v24 r_ a b o x_v20 p)) hq ∧ Mem ⟨w, h, noX⟩ d0 (K67e7 d f m ac ad x_v24 ae) (K67p12 aa r_ ab a b af ag l g k y x_v21 z u x_v22 x q x_v23 s x30) [⟨o, x_v20.length, p, 3, 1, am, a0⟩, ⟨y, x_v21.length, z, 3, 1, ar, 0⟩, ⟨u, x_v22.length, x, 3, 1, an, 0⟩, ⟨q, x_v23.length, s, 31, 1, ao, 0⟩, ⟨c2, 1, c6, 3, 1, ct, 0⟩, ⟨none, 0, 0, 3, 1, [], 0⟩, ⟨none, 0, 0, 31, 1, [], 0⟩] w' ∧ Heap.le a4 d0 ∧ Cells d0 ([x38] : List Int) ct) → W (K67e7 d f m ac ad x_v24 ae) (K67p12 aa r_ ab a b af ag l g k y x_v21 z u x_v22 x q x_v23 s x30) [7, 6, 12, 20, 19, 18, 13, 11, 10, 9, 5, 4, 3, 2, 1, 0] a' w') ?_ (fun jj => ?_)
     ·
      intro c2 c6 ct
      rintro _ ru ⟨hq, d0, rfl, ij, ex, b7, ev⟩
      replace aj := aj.mono b7
      replace ak := ak.mono b7
      replace al := al.mono b7
      replace ai := ai.mono b7
      replace ap := ap.mono b7
      replace a5 := a5.mono b7
      replace az := az.mono b7
      replace aq := aq.mono b7
      replace a3 := a3.mono b7
      replace au := au.mono b7
      refine D_two 8 14 rfl rfl (by kernel_rfl) (by decide) (rfl) (rfl) (fun K hK => ?_) (fun K hK => ?_)
      ·
       obtain ⟨g7, nl⟩ := app_some ex40
       refine wp_append 1 8 1 _ (x40.length) _ ct ij ex rfl rfl (by decide) rfl (by rfl) (by kernel_rfl) (by rfl) (by rfl) (Cells.len ev) (ex.rowCell (i := 4) rfl) ev.one (by rw [g7]; simp) (by rw [g7]; exact nl) (by decide) fun e2 e7 h8 o2 qb kt (l2 : Kn 74 [(d, 0), (f, 0), (m, 0), (ac, ad + (x_v24 : Int).toNat * 3), (ae, 0)] [(40, .one (.c (.slice e2 x40.length e7))), (44, .one (.c (.func l g k))), (39, .one (.c (.slice c2 1 c6))), (52, .one (.c (.slice o x_v20.length p))), (51, .one (.c (.slice q x_v23.length s))), (45, .one (.c (.ptr 0 1))), (42, .one (.c (.slice u x_v22.length x))), (33, .one (.c (.slice y x_v21.length z))), (28, .one (.c (.int .i64 x_v24))), (27, .one (.c (.int .i64 ((r_.buses.length : Nat) : Int)))), (26, .one (.c (.slice a r_.buses.length b))), (5, .one (.c (.slice o x_v20.length p))), (4, .one (.c (.ptr 2 0))), (3, .one (.c (.ptr 1 0))), (2, .one (.c (.ptr 0 0)))] o2) (gs : Mem ⟨w, h, noX⟩ d0 [(d, 0), (f, 0), (m, 0), (ac, ad + (x_v24 : Int).toNat * 3), (ae, 0)] [⟨[.slice aa r_.legs.length ab, .int .i64 r_.turn.lo, .int .i64 r_.turn.hi, .slice a r_.buses.length b, .slice af r_.spares.length ag, .int .i64 r_.unit, .int .i64 r_.gap, .int .i64 r_.fr, .int .i64 r_.to_], some 43⟩, ⟨[.func l g k], some 132⟩, ⟨[.slice y x_v21.length z, .slice u x_v22.length x, .slice q x_v23.length s], some 76⟩, ⟨[.int .i64 x30.stop, .int .i64 x30.tm.lo, .int .i64 x30.tm.hi], none⟩, ⟨[.int .i64 x30.stop, .int .i64 x30.tm.lo, .int .i64 x30.tm.hi], some 96⟩] [⟨o, x_v20.length, p, 3, 1, am, a0⟩, ⟨e2, x40.length, e7, 3, 1, (ar ++ ct), h8⟩, ⟨u, x_v22.length, x, 3, 1, an, 0⟩, ⟨q, x_v23.length, s, 31, 1, ao, 0⟩, ⟨c2, 1, c6, 3, 1, ct, 0⟩, ⟨none, 0, 0, 3, 1, [], 0⟩, ⟨none, 0, 0, 31, 1, [], 0⟩] qb) => ?_
       have kh : Cells d0 x40 (ar ++ ct) := by rw [g7]; exact Cells.append a5 ev
       obtain rfl : h8 = 0 := Nat.le_zero.1 kt
       refine hK _ _ gs.plOk ?_
       refine D_run [24] [24, 8, 7, 6, 12, 20, 19, 18, 13, 11, 10, 9, 5, 4, 3, 2, 1, 0] [56, 40, 44, 52, 51, 45, 42, 28, 27, 26, 5, 4, 3, 2] ((tP 56 2 0) :: (tS 40 e2 x40.length e7) :: (44, .one (.c (.func l g k))) :: (tS 52 o x_v20.length p) :: (tS 51 q x_v23.length s) :: (tP 45 0 1) :: (tS 42 u x_v22.length x) :: (K67m14 x_v24 r_ a b o x_v20 p)) (fun _ _ _ _ _ h => h) l2 gs.plOk (by kernel_rfl) (by rfl) (by kernel_rfl) fun q6 l3 => ?_
       refine D_perm [24, 8, 7, 6, 12, 20, 19, 18, 13, 11, 10, 9, 5, 4, 3, 2, 1, 0] (by kernel_rfl) (by rfl) (jh e2 e7 (ar ++ ct) c2 c6 ct _ _ ?_)
       exact Exists.intro _ ⟨_, rfl, (l3.keep [44, 56, 40, 52, 51, 45, 42, 28, 27, 26, 5, 4, 3, 2] (by rfl)), gs, b7, kh, ev⟩
      ·
       refine wp_quiet ij ex.plOk rfl (by decide) (by kernel_rfl) fun o3 (l4 : Kn 74 (K67e7 d f m ac ad x_v24 ae) ((tA 46 (K67c3 r_)) :: (44, .one (.c (.func l g k))) :: (tS 39 c2 1 c6) :: (tS 52 o x_v20.length p) :: (tS 51 q x_v23.length s) :: (tP 45 0 1) :: (K67m18 u x_v22 x y x_v21 z x_v24 r_ a b o x_v20 p)) o3) => hK _ _ ex.plOk ?_
       refine D_perm [7, 6, 12, 14, 20, 19, 18, 13, 11, 10, 9, 5, 4, 3, 2, 1, 0] (by kernel_rfl) (by rfl) (hc c2 c6 ct _ _ ?_)
       exact Exists.intro _ ⟨_, rfl, (l4.keep [46, 44, 39, 52, 51, 42, 33, 28, 27, 26, 5, 4, 3, 2] (by rfl)), ex, b7, ev⟩
     refine D_share (fun W => ∀ (c3 : Option Addr), ∀ (c7 : Nat), ∀ (cu : List Value), ∀ a' w', (∃ (hr : Array Value) (d1 : Heap), a' = ⟨hr, []⟩ ∧ Kn 74 (K67e7 d f m ac ad x_v24 ae) ((tA 46 (K67c3 r_)) :: (tS 39 c3 1 c7) :: (tS 52 o x_v20.length p) :: (tS 51 q x_v23.length s) :: (tP 43 1 0) :: (K67m18 u x_v22 x y x_v21 z x_v24 r_ a b o x_v20 p)) hr ∧ Mem ⟨w, h, noX⟩ d1 (K67e7 d f m ac ad x_v24 ae) (K67p12 aa r_ ab a b af ag l g k y x_v21 z u x_v22 x q x_v23 s x30) [⟨o, x_v20.length, p, 3, 1, am, a0⟩, ⟨y, x_v21.length, z, 3, 1, ar, 0⟩, ⟨u, x_v22.length, x, 3, 1, an, 0⟩, ⟨q, x_v23.length, s, 31, 1, ao, 0⟩, ⟨c3, 1, c7, 3, 1, cu, 0⟩, ⟨none, 0, 0, 3, 1, [], 0⟩, ⟨none, 0, 0, 31, 1, [], 0⟩] w' ∧ Heap.le a4 d1 ∧ Cells d1 ([x38] : List Int) cu) → W (K67e7 d f m ac ad x_v24 ae) (K67p12 aa r_ ab a b af ag l g k y x_v21 z u x_v22 x q x_v23 s x30) [7, 6, 14, 20, 19, 18, 13, 11, 10, 9, 5, 4, 3, 2, 1, 0] a' w') ?_ (fun jk => ?_)
     ·
      intro c3 c7 cu
      rintro _ rv ⟨hr, d1, rfl, ik, ey, b8, ew⟩
      replace aj := aj.mono b8
      replace ak := ak.mono b8
      replace al := al.mono b8
      replace ai := ai.mono b8
      replace ap := ap.mono b8
      replace a5 := a5.mono b8
      replace az := az.mono b8
      replace aq := aq.mono b8
      replace a3 := a3.mono b8
      replace au := au.mono b8
      refine D_two 8 12 rfl rfl (by kernel_rfl) (by decide) (rfl) (rfl) (fun K hK => ?_) (fun K hK => ?_)
      ·
       obtain ⟨g8, nm⟩ := app_some ex40
       refine wp_append 1 8 1 _ (x40.length) _ cu ik ey rfl rfl (by decide) rfl (by rfl) (by kernel_rfl) (by rfl) (by rfl) (Cells.len ew) (ey.rowCell (i := 4) rfl) ew.one (by rw [g8]; simp) (by rw [g8]; exact nm) (by decide) fun e3 e8 h9 o4 qc ku (l5 : Kn 74 [(d, 0), (f, 0), (m, 0), (ac, ad + (x_v24 : Int).toNat * 3), (ae, 0)] [(40, .one (.c (.slice e3 x40.length e8))), (46, .one (.agg [.int .i64 r_.turn.lo, .int .i64 r_.turn.hi])), (39, .one (.c (.slice c3 1 c7))), (52, .one (.c (.slice o x_v20.length p))), (51, .one (.c (.slice q x_v23.length s))), (43, .one (.c (.ptr 1 0))), (42, .one (.c (.slice u x_v22.length x))), (33, .one (.c (.slice y x_v21.length z))), (28, .one (.c (.int .i64 x_v24))), (27, .one (.c (.int .i64 ((r_.buses.length : Nat) : Int)))), (26, .one (.c (.slice a r_.buses.length b))), (5, .one (.c (.slice o x_v20.length p))), (4, .one (.c (.ptr 2 0))), (3, .one (.c (.ptr 1 0))), (2, .one (.c (.ptr 0 0)))] o4) (gu : Mem ⟨w, h, noX⟩ d1 [(d, 0), (f, 0), (m, 0), (ac, ad + (x_v24 : Int).toNat * 3), (ae, 0)] [⟨[.slice aa r_.legs.length ab, .int .i64 r_.turn.lo, .int .i64 r_.turn.hi, .slice a r_.buses.length b, .slice af r_.spares.length ag, .int .i64 r_.unit, .int .i64 r_.gap, .int .i64 r_.fr, .int .i64 r_.to_], some 43⟩, ⟨[.func l g k], some 132⟩, ⟨[.slice y x_v21.length z, .slice u x_v22.length x, .slice q x_v23.length s], some 76⟩, ⟨[.int .i64 x30.stop, .int .i64 x30.tm.lo, .int .i64 x30.tm.hi], none⟩, ⟨[.int .i64 x30.stop, .int .i64 x30.tm.lo, .int .i64 x30.tm.hi], some 96⟩] [⟨o, x_v20.length, p, 3, 1, am, a0⟩, ⟨e3, x40.length, e8, 3, 1, (ar ++ cu), h9⟩, ⟨u, x_v22.length, x, 3, 1, an, 0⟩, ⟨q, x_v23.length, s, 31, 1, ao, 0⟩, ⟨c3, 1, c7, 3, 1, cu, 0⟩, ⟨none, 0, 0, 3, 1, [], 0⟩, ⟨none, 0, 0, 31, 1, [], 0⟩] qc) => ?_
       have ki : Cells d1 x40 (ar ++ cu) := by rw [g8]; exact Cells.append a5 ew
       obtain rfl : h9 = 0 := Nat.le_zero.1 ku
       refine hK _ _ gu.plOk ?_
       refine D_run [24] [24, 8, 7, 6, 14, 20, 19, 18, 13, 11, 10, 9, 5, 4, 3, 2, 1, 0] [56, 40, 46, 52, 51, 43, 42, 28, 27, 26, 5, 4, 3, 2] ((tP 56 2 0) :: (tS 40 e3 x40.length e8) :: (tA 46 (K67c3 r_)) :: (tS 52 o x_v20.length p) :: (tS 51 q x_v23.length s) :: (tP 43 1 0) :: (tS 42 u x_v22.length x) :: (K67m14 x_v24 r_ a b o x_v20 p)) (fun _ _ _ _ _ h => h) l5 gu.plOk (by kernel_rfl) (by rfl) (by kernel_rfl) fun q7 l6 => ?_
       refine D_perm [24, 8, 7, 6, 14, 20, 19, 18, 13, 11, 10, 9, 5, 4, 3, 2, 1, 0] (by kernel_rfl) (by rfl) (ji e3 e8 (ar ++ cu) c3 c7 cu _ _ ?_)
       exact Exists.intro _ ⟨_, rfl, (l6.keep [46, 56, 40, 52, 51, 43, 42, 28, 27, 26, 5, 4, 3, 2] (by rfl)), gu, b8, ki, ew⟩
      ·
       refine wp_quiet ik ey.plOk rfl (by decide) (by kernel_rfl) fun o5 (l7 : Kn 74 (K67e7 d f m ac ad x_v24 ae) ((44, .one (.c (.func l g k))) :: (tA 46 (K67c3 r_)) :: (tS 39 c3 1 c7) :: (tS 52 o x_v20.length p) :: (tS 51 q x_v23.length s) :: (tP 43 1 0) :: (K67m18 u x_v22 x y x_v21 z x_v24 r_ a b o x_v20 p)) o5) => hK _ _ ey.plOk ?_
       refine D_perm [7, 6, 12, 14, 20, 19, 18, 13, 11, 10, 9, 5, 4, 3, 2, 1, 0] (by kernel_rfl) (by rfl) (hc c3 c7 cu _ _ ?_)
       exact Exists.intro _ ⟨_, rfl, (l7.keep [46, 44, 39, 52, 51, 42, 33, 28, 27, 26, 5, 4, 3, 2] (by rfl)), ey, b8, ew⟩
     refine D_share (fun W => ∀ a' w', (∃ (hs : Array Value) (d2 : Heap), a' = ⟨hs, []⟩ ∧ Kn 74 (K67e7 d f m ac ad x_v24 ae) ((tA 46 (K67c3 r_)) :: (44, .one (.c (.func l g k))) :: (tI 38 x38) :: (tS 52 o x_v20.length p) :: (tS 51 q x_v23.length s) :: (K67m18 u x_v22 x y x_v21 z x_v24 r_ a b o x_v20 p)) hs ∧ Mem ⟨w, h, noX⟩ d2 (K67e7 d f m ac ad x_v24 ae) (K67p12 aa r_ ab a b af ag l g k y x_v21 z u x_v22 x q x_v23 s x30) (K67r13 o x_v20 p am a0 y x_v21 z ar u x_v22 x an q x_v23 s ao) w' ∧ Heap.le a4 d2) → W (K67e7 d f m ac ad x_v24 ae) (K67p12 aa r_ ab a b af ag l g k y x_v21 z u x_v22 x q x_v23 s x30) [6, 12, 14, 20, 19, 18, 13, 11, 10, 9, 5, 4, 3, 2, 1, 0] a' w') ?_ (fun hd => ?_)
     ·
      rintro _ rx ⟨hs, d2, rfl, l8, nz, b9⟩
      replace aj := aj.mono b9
      replace ak := ak.mono b9
      replace al := al.mono b9
      replace ai := ai.mono b9
      replace ap := ap.mono b9
      replace a5 := a5.mono b9
      replace az := az.mono b9
      replace aq := aq.mono b9
      replace bj := bj.mono b9
      replace a3 := a3.mono b9
      replace au := au.mono b9
      refine D_loud 7 rfl (by kernel_rfl) (by decide) (rfl) fun K hK => ?_
      refine wp_buildSlice_at 4 rfl rfl 3 1 [.int .i64 x38] l8 nz rfl rfl (by decide) (by kernel_rfl) (by rfl) (by rfl) rfl (by decide) fun fy o6 qd (l9 : Kn 74 (K67e7 d f m ac ad x_v24 ae) ((tS 39 fy 1 1) :: (tA 46 (K67c3 r_)) :: (44, .one (.c (.func l g k))) :: (tI 38 x38) :: (tS 52 o x_v20.length p) :: (tS 51 q x_v23.length s) :: (K67m18 u x_v22 x y x_v21 z x_v24 r_ a b o x_v20 p)) o6) (i3 : Mem ⟨w, h, noX⟩ d2 (K67e7 d f m ac ad x_v24 ae) (K67p12 aa r_ ab a b af ag l g k y x_v21 z u x_v22 x q x_v23 s x30) [⟨o, x_v20.length, p, 3, 1, am, a0⟩, ⟨y, x_v21.length, z, 3, 1, ar, 0⟩, ⟨u, x_v22.length, x, 3, 1, an, 0⟩, ⟨q, x_v23.length, s, 31, 1, ao, 0⟩, ⟨fy, 1, 1, 3, 1, ([.int .i64 x38] : List Value), 0⟩, ⟨none, 0, 0, 3, 1, [], 0⟩, ⟨none, 0, 0, 31, 1, [], 0⟩] qd) => ?_
      have kj : Cells d2 ([x38] : List Int) ([.int .i64 x38] : List Value) := ⟨_, _, rfl, (rep_int : rep d2 (x38 : Int) _), rfl⟩
      refine hK _ _ i3.plOk ?_
      refine D_perm [7, 6, 12, 14, 20, 19, 18, 13, 11, 10, 9, 5, 4, 3, 2, 1, 0] (by kernel_rfl) (by rfl) (hc fy 1 ([.int .i64 x38] : List Value) _ _ ?_)
      exact Exists.intro _ ⟨_, rfl, (l9.keep [46, 44, 39, 52, 51, 42, 33, 28, 27, 26, 5, 4, 3, 2] (by rfl)), i3, b9, kj⟩
     refine D_share (fun W => ∀ a' w', (∃ (ht : Array Value) (d3 : Heap), a' = ⟨ht, []⟩ ∧ Kn 74 (K67e7 d f m ac ad x_v24 ae) ((44, .one (.c (.func l g k))) :: (tI 38 x38) :: (tS 52 o x_v20.length p) :: (tS 51 q x_v23.length s) :: (tP 45 0 1) :: (K67m18 u x_v22 x y x_v21 z x_v24 r_ a b o x_v20 p)) ht ∧ Mem ⟨w, h, noX⟩ d3 (K67e7 d f m ac ad x_v24 ae) (K67p12 aa r_ ab a b af ag l g k y x_v21 z u x_v22 x q x_v23 s x30) (K67r13 o x_v20 p am a0 y x_v21 z ar u x_v22 x an q x_v23 s ao) w' ∧ Heap.le a4 d3) → W (K67e7 d f m ac ad x_v24 ae) (K67p12 aa r_ ab a b af ag l g k y x_v21 z u x_v22 x q x_v23 s x30) [6, 12, 20, 19, 18, 13, 11, 10, 9, 5, 4, 3, 2, 1, 0] a' w') ?_ (fun jl => ?_)
     ·
      rintro _ ry ⟨ht, d3, rfl, il, fg, bz⟩
      replace aj := aj.mono bz
      replace ak := ak.mono bz
      replace al := al.mono bz
      replace ai := ai.mono bz
      replace ap := ap.mono bz
      replace a5 := a5.mono bz
      replace az := az.mono bz
      replace aq := aq.mono bz
      replace bj := bj.mono bz
      replace a3 := a3.mono bz
      replace au := au.mono bz
      refine D_two 7 14 rfl rfl (by kernel_rfl) (by decide) (rfl) (rfl) (fun K hK => ?_) (fun K hK => ?_)
      ·
       refine wp_buildSlice_at 4 rfl rfl 3 1 [.int .i64 x38] il fg rfl rfl (by decide) (by kernel_rfl) (by rfl) (by rfl) rfl (by decide) fun fz o7 qe (ma : Kn 74 (K67e7 d f m ac ad x_v24 ae) ((tS 39 fz 1 1) :: (44, .one (.c (.func l g k))) :: (tI 38 x38) :: (tS 52 o x_v20.length p) :: (tS 51 q x_v23.length s) :: (tP 45 0 1) :: (K67m18 u x_v22 x y x_v21 z x_v24 r_ a b o x_v20 p)) o7) (i4 : Mem ⟨w, h, noX⟩ d3 (K67e7 d f m ac ad x_v24 ae) (K67p12 aa r_ ab a b af ag l g k y x_v21 z u x_v22 x q x_v23 s x30) [⟨o, x_v20.length, p, 3, 1, am, a0⟩, ⟨y, x_v21.length, z, 3, 1, ar, 0⟩, ⟨u, x_v22.length, x, 3, 1, an, 0⟩, ⟨q, x_v23.length, s, 31, 1, ao, 0⟩, ⟨fz, 1, 1, 3, 1, ([.int .i64 x38] : List Value), 0⟩, ⟨none, 0, 0, 3, 1, [], 0⟩, ⟨none, 0, 0, 31, 1, [], 0⟩] qe) => ?_
       have kk : Cells d3 ([x38] : List Int) ([.int .i64 x38] : List Value) := ⟨_, _, rfl, (rep_int : rep d3 (x38 : Int) _), rfl⟩
       refine hK _ _ i4.plOk ?_
       refine D_perm [7, 6, 12, 20, 19, 18, 13, 11, 10, 9, 5, 4, 3, 2, 1, 0] (by kernel_rfl) (by rfl) (jj fz 1 ([.int .i64 x38] : List Value) _ _ ?_)
       exact Exists.intro _ ⟨_, rfl, (ma.keep [44, 39, 52, 51, 45, 42, 33, 28, 27, 26, 5, 4, 3, 2] (by rfl)), i4, bz, kk⟩
      ·
       refine wp_quiet il fg.plOk rfl (by decide) (by kernel_rfl) fun o8 (mb : Kn 74 (K67e7 d f m ac ad x_v24 ae) ((tA 46 (K67c3 r_)) :: (44, .one (.c (.func l g k))) :: (tI 38 x38) :: (tS 52 o x_v20.length p) :: (tS 51 q x_v23.length s) :: (tP 45 0 1) :: (K67m18 u x_v22 x y x_v21 z x_v24 r_ a b o x_v20 p)) o8) => hK _ _ fg.plOk ?_
       refine D_perm [6, 12, 14, 20, 19, 18, 13, 11, 10, 9, 5, 4, 3, 2, 1, 0] (by kernel_rfl) (by rfl) (hd _ _ ?_)
       exact Exists.intro _ ⟨_, rfl, (mb.keep [46, 44, 38, 52, 51, 42, 33, 28, 27, 26, 5, 4, 3, 2] (by rfl)), fg, bz⟩
     refine D_share (fun W => ∀ a' w', (∃ (hu : Array Value) (d4 : Heap), a' = ⟨hu, []⟩ ∧ Kn 74 (K67e7 d f m ac ad x_v24 ae) ((tA 46 (K67c3 r_)) :: (tI 38 x38) :: (tS 52 o x_v20.length p) :: (tS 51 q x_v23.length s) :: (tP 43 1 0) :: (K67m18 u x_v22 x y x_v21 z x_v24 r_ a b o x_v20 p)) hu ∧ Mem ⟨w, h, noX⟩ d4 (K67e7 d f m ac ad x_v24 ae) (K67p12 aa r_ ab a b af ag l g k y x_v21 z u x_v22 x q x_v23 s x30) (K67r13 o x_v20 p am a0 y x_v21 z ar u x_v22 x an q x_v23 s ao) w' ∧ Heap.le a4 d4) → W (K67e7 d f m ac ad x_v24 ae) (K67p12 aa r_ ab a b af ag l g k y x_v21 z u x_v22 x q x_v23 s x30) [6, 14, 20, 19, 18, 13, 11, 10, 9, 5, 4, 3, 2, 1, 0] a' w') ?_ (fun jm => ?_)
     ·
      rintro _ rz ⟨hu, d4, rfl, im, fh, b0⟩
      replace aj := aj.mono b0
      replace ak := ak.mono b0
      replace al := al.mono b0
      replace ai := ai.mono b0
      replace ap := ap.mono b0
      replace a5 := a5.mono b0
      replace az := az.mono b0
      replace aq := aq.mono b0
      replace bj := bj.mono b0
      replace a3 := a3.mono b0
      replace au := au.mono b0
      refine D_two 7 12 rfl rfl (by kernel_rfl) (by decide) (rfl) (rfl) (fun K hK => ?_) (fun K hK => ?_)
      ·
       refine wp_buildSlice_at 4 rfl rfl 3 1 [.int .i64 x38] im fh rfl rfl (by decide) (by kernel_rfl) (by rfl) (by rfl) rfl (by decide) fun f0 o9 qf (mc : Kn 74 (K67e7 d f m ac ad x_v24 ae) ((tS 39 f0 1 1) :: (tA 46 (K67c3 r_)) :: (tI 38 x38) :: (tS 52 o x_v20.length p) :: (tS 51 q x_v23.length s) :: (tP 43 1 0) :: (K67m18 u x_v22 x y x_v21 z x_v24 r_ a b o x_v20 p)) o9) (i5 : Mem ⟨w, h, noX⟩ d4 (K67e7 d f m ac ad x_v24 ae) (K67p12 aa r_ ab a b af ag l g k y x_v21 z u x_v22 x q x_v23 s x30) [⟨o, x_v20.length, p, 3, 1, am, a0⟩, ⟨y, x_v21.length, z, 3, 1, ar, 0⟩, ⟨u, x_v22.length, x, 3, 1, an, 0⟩, ⟨q, x_v23.length, s, 31, 1, ao, 0⟩, ⟨f0, 1, 1, 3, 1, ([.int .i64 x38] : List Value), 0⟩, ⟨none, 0, 0, 3, 1, [], 0⟩, ⟨none, 0, 0, 31, 1, [], 0⟩] qf) => ?_
       have km : Cells d4 ([x38] : List Int) ([.int .i64 x38] : List Value) := ⟨_, _, rfl, (rep_int : rep d4 (x38 : Int) _), rfl⟩
       refine hK _ _ i5.plOk ?_
       refine D_perm [7, 6, 14, 20, 19, 18, 13, 11, 10, 9, 5, 4, 3, 2, 1, 0] (by kernel_rfl) (by rfl) (jk f0 1 ([.int .i64 x38] : List Value) _ _ ?_)
       exact Exists.intro _ ⟨_, rfl, (mc.keep [46, 39, 52, 51, 43, 42, 33, 28, 27, 26, 5, 4, 3, 2] (by rfl)), i5, b0, km⟩
      ·
       refine wp_quiet im fh.plOk rfl (by decide) (by kernel_rfl) fun pa (md : Kn 74 (K67e7 d f m ac ad x_v24 ae) ((44, .one (.c (.func l g k))) :: (tA 46 (K67c3 r_)) :: (tI 38 x38) :: (tS 52 o x_v20.length p) :: (tS 51 q x_v23.length s) :: (tP 43 1 0) :: (K67m18 u x_v22 x y x_v21 z x_v24 r_ a b o x_v20 p)) pa) => hK _ _ fh.plOk ?_
       refine D_perm [6, 12, 14, 20, 19, 18, 13, 11, 10, 9, 5, 4, 3, 2, 1, 0] (by kernel_rfl) (by rfl) (hd _ _ ?_)
       exact Exists.intro _ ⟨_, rfl, (md.keep [46, 44, 38, 52, 51, 42, 33, 28, 27, 26, 5, 4, 3, 2] (by rfl)), fh, b0⟩
     refine D_share (fun W => ∀ a' w', (∃ (hv : Array Value) (e9 : Heap), a' = ⟨hv, []⟩ ∧ Kn 74 (K67e7 d f m ac ad x_v24 ae) ((tA 46 (K67c3 r_)) :: (44, .one (.c (.func l g k))) :: (tS 52 o x_v20.length p) :: (tS 51 q x_v23.length s) :: (tS 42 u x_v22.length x) :: (tA 37 (K67c2 x30)) :: (35, .one (.c (.func l g k))) :: (tS 33 y x_v21.length z) :: (K67m14 x_v24 r_ a b o x_v20 p)) hv ∧ Mem ⟨w, h, noX⟩ e9 (K67e7 d f m ac ad x_v24 ae) (K67p12 aa r_ ab a b af ag l g k y x_v21 z u x_v22 x q x_v23 s x30) (K67r13 o x_v20 p am a0 y x_v21 z ar u x_v22 x an q x_v23 s ao) w' ∧ Heap.le a4 e9) → W (K67e7 d f m ac ad x_v24 ae) (K67p12 aa r_ ab a b af ag l g k y x_v21 z u x_v22 x q x_v23 s x30) [12, 14, 20, 19, 18, 13, 11, 10, 9, 5, 4, 3, 2, 1, 0] a' w') ?_ (fun jn => ?_)
     ·
      rintro _ r0 ⟨hv, e9, rfl, me, i6, ca⟩
      replace aj := aj.mono ca
      replace ak := ak.mono ca
      replace al := al.mono ca
      replace ai := ai.mono ca
      replace ap := ap.mono ca
      replace a5 := a5.mono ca
      replace az := az.mono ca
      replace aq := aq.mono ca
      replace bj := bj.mono ca
      replace a3 := a3.mono ca
      replace au := au.mono ca
      refine D_loud 6 rfl (by kernel_rfl) (by decide) (rfl) fun K hK => ?_
      refine wp_callV (.func l g k) [.agg (K67c2 x30)] _ me i6 rfl rfl (by decide) (by rfl) (by rfl) rfl (ai _ _ (Heap.le_refl _) i6.has x30.tm _ ((rep_pair rep_int rep_int) : rep e9 x30.tm _) _ ex38) fun ri qs r1 jv cb i7 => ?_
      replace aj := aj.mono cb
      replace ak := ak.mono cb
      replace al := al.mono cb
      replace ai := ai.mono cb
      replace ap := ap.mono cb
      replace a5 := a5.mono cb
      replace az := az.mono cb
      replace aq := aq.mono cb
      replace bj := bj.mono cb
      replace a3 := a3.mono cb
      replace au := au.mono cb
      obtain rfl := jv
      refine ⟨.one (.c (.int .i64 x38)), rfl, fun pb (mf : Kn 74 (K67e7 d f m ac ad x_v24 ae) ((tI 38 x38) :: (tA 46 (K67c3 r_)) :: (44, .one (.c (.func l g k))) :: (tS 52 o x_v20.length p) :: (tS 51 q x_v23.length s) :: (tS 42 u x_v22.length x) :: (tA 37 (K67c2 x30)) :: (35, .one (.c (.func l g k))) :: (tS 33 y x_v21.length z) :: (K67m14 x_v24 r_ a b o x_v20 p)) pb) => hK _ _ i7.plOk ?_⟩
      refine D_perm [6, 12, 14, 20, 19, 18, 13, 11, 10, 9, 5, 4, 3, 2, 1, 0] (by kernel_rfl) (by rfl) (hd _ _ ?_)
      exact Exists.intro _ ⟨_, rfl, (mf.keep [46, 44, 38, 52, 51, 42, 33, 28, 27, 26, 5, 4, 3, 2] (by rfl)), i7, (Heap.le_trans ca cb)⟩
     refine D_three 6 12 14 rfl rfl rfl (by kernel_rfl) (by decide) (rfl) (rfl) (rfl) (fun K hK => ?_) (fun K hK => ?_) (fun K hK => ?_)
     ·
      refine wp_callV (.func l g k) [.agg (K67c2 x30)] _ gd bk rfl rfl (by decide) (by rfl) (by rfl) rfl (ai _ _ (Heap.le_refl _) bk.has x30.tm _ ((rep_pair rep_int rep_int) : rep a4 x30.tm _) _ ex38) fun rj er r2 jw bi de => ?_
      replace aj := aj.mono bi
      replace ak := ak.mono bi
      replace al := al.mono bi
      replace ai := ai.mono bi
      replace ap := ap.mono bi
      replace a5 := a5.mono bi
      replace az := az.mono bi
      replace aq := aq.mono bi
      replace bj := bj.mono bi
      replace a3 := a3.mono bi
      replace au := au.mono bi
      obtain rfl := jw
      refine ⟨.one (.c (.int .i64 x38)), rfl, fun pc (gf : Kn 74 (K67e7 d f m ac ad x_v24 ae) ((tI 38 x38) :: (K67m15 o x_v20 p q x_v23 s u x_v22 x x30 l g k y x_v21 z x_v24 r_ a b)) pc) => hK _ _ de.plOk ?_⟩
      refine D_three 7 12 14 rfl rfl rfl (by kernel_rfl) (by decide) (rfl) (rfl) (rfl) (fun K hK => ?_) (fun K hK => ?_) (fun K hK => ?_)
      ·
       refine wp_buildSlice_at 4 rfl rfl 3 1 [.int .i64 x38] gf de rfl rfl (by decide) (by kernel_rfl) (by rfl) (by rfl) rfl (by decide) fun cl pd qg (gg : Kn 74 (K67e7 d f m ac ad x_v24 ae) ((tS 39 cl 1 1) :: (tI 38 x38) :: (K67m15 o x_v20 p q x_v23 s u x_v22 x x30 l g k y x_v21 z x_v24 r_ a b)) pd) (cz : Mem ⟨w, h, noX⟩ er (K67e7 d f m ac ad x_v24 ae) (K67p12 aa r_ ab a b af ag l g k y x_v21 z u x_v22 x q x_v23 s x30) [⟨o, x_v20.length, p, 3, 1, am, a0⟩, ⟨y, x_v21.length, z, 3, 1, ar, 0⟩, ⟨u, x_v22.length, x, 3, 1, an, 0⟩, ⟨q, x_v23.length, s, 31, 1, ao, 0⟩, ⟨cl, 1, 1, 3, 1, ([.int .i64 x38] : List Value), 0⟩, ⟨none, 0, 0, 3, 1, [], 0⟩, ⟨none, 0, 0, 31, 1, [], 0⟩] qg) => ?_
       have dm : Cells er ([x38] : List Int) ([.int .i64 x38] : List Value) := ⟨_, _, rfl, (rep_int : rep er (x38 : Int) _), rfl⟩
       refine hK _ _ cz.plOk ?_
       refine D_three 8 12 14 rfl rfl rfl (by kernel_rfl) (by decide) (rfl) (rfl) (rfl) (fun K hK => ?_) (fun K hK => ?_) (fun K hK => ?_)
       ·
        obtain ⟨g9, nn⟩ := app_some ex40
        refine wp_append 1 8 1 _ (x40.length) _ ([.int .i64 x38] : List Value) gg cz rfl rfl (by decide) rfl (by rfl) (by kernel_rfl) (by rfl) (by rfl) (Cells.len dm) (cz.rowCell (i := 4) rfl) dm.one (by rw [g9]; simp) (by rw [g9]; exact nn) (by decide) fun di dj ia pe qh kv (mg : Kn 74 [(d, 0), (f, 0), (m, 0), (ac, ad + (x_v24 : Int).toNat * 3), (ae, 0)] [(40, .one (.c (.slice di x40.length dj))), (39, .one (.c (.slice cl 1 1))), (38, .one (.c (.int .i64 x38))), (52, .one (.c (.slice o x_v20.length p))), (51, .one (.c (.slice q x_v23.length s))), (45, .one (.c (.ptr 0 1))), (43, .one (.c (.ptr 1 0))), (42, .one (.c (.slice u x_v22.length x))), (37, .one (.agg [.int .i64 x30.tm.lo, .int .i64 x30.tm.hi])), (35, .one (.c (.func l g k))), (33, .one (.c (.slice y x_v21.length z))), (28, .one (.c (.int .i64 x_v24))), (27, .one (.c (.int .i64 ((r_.buses.length : Nat) : Int)))), (26, .one (.c (.slice a r_.buses.length b))), (5, .one (.c (.slice o x_v20.length p))), (4, .one (.c (.ptr 2 0))), (3, .one (.c (.ptr 1 0))), (2, .one (.c (.ptr 0 0)))] pe) (df : Mem ⟨w, h, noX⟩ er [(d, 0), (f, 0), (m, 0), (ac, ad + (x_v24 : Int).toNat * 3), (ae, 0)] [⟨[.slice aa r_.legs.length ab, .int .i64 r_.turn.lo, .int .i64 r_.turn.hi, .slice a r_.buses.length b, .slice af r_.spares.length ag, .int .i64 r_.unit, .int .i64 r_.gap, .int .i64 r_.fr, .int .i64 r_.to_], some 43⟩, ⟨[.func l g k], some 132⟩, ⟨[.slice y x_v21.length z, .slice u x_v22.length x, .slice q x_v23.length s], some 76⟩, ⟨[.int .i64 x30.stop, .int .i64 x30.tm.lo, .int .i64 x30.tm.hi], none⟩, ⟨[.int .i64 x30.stop, .int .i64 x30.tm.lo, .int .i64 x30.tm.hi], some 96⟩] [⟨o, x_v20.length, p, 3, 1, am, a0⟩, ⟨di, x40.length, dj, 3, 1, (ar ++ ([.int .i64 x38] : List Value)), ia⟩, ⟨u, x_v22.length, x, 3, 1, an, 0⟩, ⟨q, x_v23.length, s, 31, 1, ao, 0⟩, ⟨cl, 1, 1, 3, 1, ([.int .i64 x38] : List Value), 0⟩, ⟨none, 0, 0, 3, 1, [], 0⟩, ⟨none, 0, 0, 31, 1, [], 0⟩] qh) => ?_
        have ii : Cells er x40 (ar ++ ([.int .i64 x38] : List Value)) := by rw [g9]; exact Cells.append a5 dm
        obtain rfl : ia = 0 := Nat.le_zero.1 kv
        refine hK _ _ df.plOk ?_
        refine D_run [24] [24, 8, 7, 6, 20, 19, 18, 13, 11, 10, 9, 5, 4, 3, 2, 1, 0] [56, 40, 52, 51, 45, 43, 42, 28, 27, 26, 5, 4, 3, 2] ((tP 56 2 0) :: (tS 40 di x40.length dj) :: (tS 52 o x_v20.length p) :: (tS 51 q x_v23.length s) :: (tP 45 0 1) :: (tP 43 1 0) :: (tS 42 u x_v22.length x) :: (K67m14 x_v24 r_ a b o x_v20 p)) (fun _ _ _ _ _ h => h) mg df.plOk (by kernel_rfl) (by rfl) (by kernel_rfl) fun q8 io => ?_
        refine D_two 12 14 rfl rfl (by kernel_rfl) (by decide) (rfl) (rfl) (fun K hK => ?_) (fun K hK => ?_)
        ·
         refine wp_quiet io df.plOk rfl (by decide) (by kernel_rfl) fun pf (mh : Kn 74 (K67e7 d f m ac ad x_v24 ae) ((44, .one (.c (.func l g k))) :: (tP 56 2 0) :: (tS 40 di x40.length dj) :: (tS 52 o x_v20.length p) :: (tS 51 q x_v23.length s) :: (tP 45 0 1) :: (tP 43 1 0) :: (tS 42 u x_v22.length x) :: (K67m14 x_v24 r_ a b o x_v20 p)) pf) => hK _ _ df.plOk ?_
         refine D_perm [24, 8, 7, 6, 12, 20, 19, 18, 13, 11, 10, 9, 5, 4, 3, 2, 1, 0] (by kernel_rfl) (by rfl) (jh di dj (ar ++ ([.int .i64 x38] : List Value)) cl 1 ([.int .i64 x38] : List Value) _ _ ?_)
         exact Exists.intro _ ⟨_, rfl, (mh.keep [44, 56, 40, 52, 51, 45, 42, 28, 27, 26, 5, 4, 3, 2] (by rfl)), df, bi, ii, dm⟩
        ·
         refine wp_quiet io df.plOk rfl (by decide) (by kernel_rfl) fun pg (mi : Kn 74 (K67e7 d f m ac ad x_v24 ae) ((tA 46 (K67c3 r_)) :: (tP 56 2 0) :: (tS 40 di x40.length dj) :: (tS 52 o x_v20.length p) :: (tS 51 q x_v23.length s) :: (tP 45 0 1) :: (tP 43 1 0) :: (tS 42 u x_v22.length x) :: (K67m14 x_v24 r_ a b o x_v20 p)) pg) => hK _ _ df.plOk ?_
         refine D_perm [24, 8, 7, 6, 14, 20, 19, 18, 13, 11, 10, 9, 5, 4, 3, 2, 1, 0] (by kernel_rfl) (by rfl) (ji di dj (ar ++ ([.int .i64 x38] : List Value)) cl 1 ([.int .i64 x38] : List Value) _ _ ?_)
         exact Exists.intro _ ⟨_, rfl, (mi.keep [46, 56, 40, 52, 51, 43, 42, 28, 27, 26, 5, 4, 3, 2] (by rfl)), df, bi, ii, dm⟩
       ·
        refine wp_quiet gg cz.plOk rfl (by decide) (by kernel_rfl) fun ph (mj : Kn 74 (K67e7 d f m ac ad x_v24 ae) ((44, .one (.c (.func l g k))) :: (tS 39 cl 1 1) :: (tI 38 x38) :: (K67m15 o x_v20 p q x_v23 s u x_v22 x x30 l g k y x_v21 z x_v24 r_ a b)) ph) => hK _ _ cz.plOk ?_
        refine D_perm [7, 6, 12, 20, 19, 18, 13, 11, 10, 9, 5, 4, 3, 2, 1, 0] (by kernel_rfl) (by rfl) (jj cl 1 ([.int .i64 x38] : List Value) _ _ ?_)
        exact Exists.intro _ ⟨_, rfl, (mj.keep [44, 39, 52, 51, 45, 42, 33, 28, 27, 26, 5, 4, 3, 2] (by rfl)), cz, bi, dm⟩
       ·
        refine wp_quiet gg cz.plOk rfl (by decide) (by kernel_rfl) fun pi (ml : Kn 74 (K67e7 d f m ac ad x_v24 ae) ((tA 46 (K67c3 r_)) :: (tS 39 cl 1 1) :: (tI 38 x38) :: (K67m15 o x_v20 p q x_v23 s u x_v22 x x30 l g k y x_v21 z x_v24 r_ a b)) pi) => hK _ _ cz.plOk ?_
        refine D_perm [7, 6, 14, 20, 19, 18, 13, 11, 10, 9, 5, 4, 3, 2, 1, 0] (by kernel_rfl) (by rfl) (jk cl 1 ([.int .i64 x38] : List Value) _ _ ?_)
        exact Exists.intro _ ⟨_, rfl, (ml.keep [46, 39, 52, 51, 43, 42, 33, 28, 27, 26, 5, 4, 3, 2] (by rfl)), cz, bi, dm⟩
      ·
       refine wp_quiet gf de.plOk rfl (by decide) (by kernel_rfl) fun pj (mm : Kn 74 (K67e7 d f m ac ad x_v24 ae) ((44, .one (.c (.func l g k))) :: (tI 38 x38) :: (K67m15 o x_v20 p q x_v23 s u x_v22 x x30 l g k y x_v21 z x_v24 r_ a b)) pj) => hK _ _ de.plOk ?_
       refine D_perm [6, 12, 20, 19, 18, 13, 11, 10, 9, 5, 4, 3, 2, 1, 0] (by kernel_rfl) (by rfl) (jl _ _ ?_)
       exact Exists.intro _ ⟨_, rfl, (mm.keep [44, 38, 52, 51, 45, 42, 33, 28, 27, 26, 5, 4, 3, 2] (by rfl)), de, bi⟩
      ·
       refine wp_quiet gf de.plOk rfl (by decide) (by kernel_rfl) fun pk (mn : Kn 74 (K67e7 d f m ac ad x_v24 ae) ((tA 46 (K67c3 r_)) :: (tI 38 x38) :: (K67m15 o x_v20 p q x_v23 s u x_v22 x x30 l g k y x_v21 z x_v24 r_ a b)) pk) => hK _ _ de.plOk ?_
       refine D_perm [6, 14, 20, 19, 18, 13, 11, 10, 9, 5, 4, 3, 2, 1, 0] (by kernel_rfl) (by rfl) (jm _ _ ?_)
       exact Exists.intro _ ⟨_, rfl, (mn.keep [46, 38, 52, 51, 43, 42, 33, 28, 27, 26, 5, 4, 3, 2] (by rfl)), de, bi⟩
     ·
      refine wp_quiet gd bk.plOk rfl (by decide) (by kernel_rfl) fun pl (ip : Kn 74 (K67e7 d f m ac ad x_v24 ae) ((44, .one (.c (.func l g k))) :: (K67m15 o x_v20 p q x_v23 s u x_v22 x x30 l g k y x_v21 z x_v24 r_ a b)) pl) => hK _ _ bk.plOk ?_
      refine D_two 6 14 rfl rfl (by kernel_rfl) (by decide) (rfl) (rfl) (fun K hK => ?_) (fun K hK => ?_)
      ·
       refine wp_callV (.func l g k) [.agg (K67c2 x30)] _ ip bk rfl rfl (by decide) (by rfl) (by rfl) rfl (ai _ _ (Heap.le_refl _) bk.has x30.tm _ ((rep_pair rep_int rep_int) : rep a4 x30.tm _) _ ex38) fun rk qt r3 jx cc i8 => ?_
       replace aj := aj.mono cc
       replace ak := ak.mono cc
       replace al := al.mono cc
       replace ai := ai.mono cc
       replace ap := ap.mono cc
       replace a5 := a5.mono cc
       replace az := az.mono cc
       replace aq := aq.mono cc
       replace bj := bj.mono cc
       replace a3 := a3.mono cc
       replace au := au.mono cc
       obtain rfl := jx
       refine ⟨.one (.c (.int .i64 x38)), rfl, fun pm (mo : Kn 74 (K67e7 d f m ac ad x_v24 ae) ((tI 38 x38) :: (44, .one (.c (.func l g k))) :: (K67m15 o x_v20 p q x_v23 s u x_v22 x x30 l g k y x_v21 z x_v24 r_ a b)) pm) => hK _ _ i8.plOk ?_⟩
       refine D_perm [6, 12, 20, 19, 18, 13, 11, 10, 9, 5, 4, 3, 2, 1, 0] (by kernel_rfl) (by rfl) (jl _ _ ?_)
       exact Exists.intro _ ⟨_, rfl, (mo.keep [44, 38, 52, 51, 45, 42, 33, 28, 27, 26, 5, 4, 3, 2] (by rfl)), i8, cc⟩
      ·
       refine wp_quiet ip bk.plOk rfl (by decide) (by kernel_rfl) fun pn (mp : Kn 74 (K67e7 d f m ac ad x_v24 ae) ((tA 46 (K67c3 r_)) :: (44, .one (.c (.func l g k))) :: (K67m15 o x_v20 p q x_v23 s u x_v22 x x30 l g k y x_v21 z x_v24 r_ a b)) pn) => hK _ _ bk.plOk ?_
       refine D_perm [12, 14, 20, 19, 18, 13, 11, 10, 9, 5, 4, 3, 2, 1, 0] (by kernel_rfl) (by rfl) (jn _ _ ?_)
       exact Exists.intro _ ⟨_, rfl, (mp.keep [46, 44, 52, 51, 42, 37, 35, 33, 28, 27, 26, 5, 4, 3, 2] (by rfl)), bk, (Heap.le_refl _)⟩
     ·
      refine wp_quiet gd bk.plOk rfl (by decide) (by kernel_rfl) fun po (iq : Kn 74 (K67e7 d f m ac ad x_v24 ae) ((tA 46 (K67c3 r_)) :: (K67m15 o x_v20 p q x_v23 s u x_v22 x x30 l g k y x_v21 z x_v24 r_ a b)) po) => hK _ _ bk.plOk ?_
      refine D_two 6 12 rfl rfl (by kernel_rfl) (by decide) (rfl) (rfl) (fun K hK => ?_) (fun K hK => ?_)
      ·
       refine wp_callV (.func l g k) [.agg (K67c2 x30)] _ iq bk rfl rfl (by decide) (by rfl) (by rfl) rfl (ai _ _ (Heap.le_refl _) bk.has x30.tm _ ((rep_pair rep_int rep_int) : rep a4 x30.tm _) _ ex38) fun rl qu r4 jy cd i9 => ?_
       replace aj := aj.mono cd
       replace ak := ak.mono cd
       replace al := al.mono cd
       replace ai := ai.mono cd
       replace ap := ap.mono cd
       replace a5 := a5.mono cd
       replace az := az.mono cd
       replace aq := aq.mono cd
       replace bj := bj.mono cd
       replace a3 := a3.mono cd
       replace au := au.mono cd
       obtain rfl := jy
       refine ⟨.one (.c (.int .i64 x38)), rfl, fun pp (mq : Kn 74 (K67e7 d f m ac ad x_v24 ae) ((tI 38 x38) :: (tA 46 (K67c3 r_)) :: (K67m15 o x_v20 p q x_v23 s u x_v22 x x30 l g k y x_v21 z x_v24 r_ a b)) pp) => hK _ _ i9.plOk ?_⟩
       refine D_perm [6, 14, 20, 19, 18, 13, 11, 10, 9, 5, 4, 3, 2, 1, 0] (by kernel_rfl) (by rfl) (jm _ _ ?_)
       exact Exists.intro _ ⟨_, rfl, (mq.keep [46, 38, 52, 51, 43, 42, 33, 28, 27, 26, 5, 4, 3, 2] (by rfl)), i9, cd⟩
      ·
       refine wp_quiet iq bk.plOk rfl (by decide) (by kernel_rfl) fun pq (mr : Kn 74 (K67e7 d f m ac ad x_v24 ae) ((44, .one (.c (.func l g k))) :: (tA 46 (K67c3 r_)) :: (K67m15 o x_v20 p q x_v23 s u x_v22 x x30 l g k y x_v21 z x_v24 r_ a b)) pq) => hK _ _ bk.plOk ?_
       refine D_perm [12, 14, 20, 19, 18, 13, 11, 10, 9, 5, 4, 3, 2, 1, 0] (by kernel_rfl) (by rfl) (jn _ _ ?_)
       exact Exists.intro _ ⟨_, rfl, (mr.keep [46, 44, 52, 51, 42, 37, 35, 33, 28, 27, 26, 5, 4, 3, 2] (by rfl)), bk, (Heap.le_refl _)⟩
    ·
     rw [f6, cond_false] at a9
     refine wp_exit ?_
     obtain rfl := Option.some.inj a9
     exact Exists.intro o ⟨p, am, a0, y, z, ar, u, x, an, q, s, ao, _, _, rfl, (gc.keep [5, 4, 2] (by rfl)), gk, ea, ap, a5, az, aq⟩
  ·
   rintro _ r5 ⟨ef, ek, fn, f3, av, ax, bl, aw, ay, bo, e0, e5, fo, hf, cw, rfl, ms, ja, fd, j7, bm, bn, j8⟩
   replace aj := aj.mono fd
   replace ak := ak.mono fd
   replace al := al.mono fd
   replace ai := ai.mono fd
   refine wp_seq (wp_seq (wp_region_from (R_runk 0 4 [63, 62, 5, 4] [(tI 63 0), (tI 62 ((r_.spares.length : Nat) : Int)), (tS 5 ef ah.1.length ek), (tP 4 2 0)] ms ja.plOk (by kernel_rfl) fun q9 mu => ?_)))
   refine wpFrom_end (by decide) ?_
   obtain ⟨a6, h3, H⟩ := bnd H
   refine wp_mid' (fun a' w' => ∃ (du : Option Addr) (dw : Nat) (ds : List Value) (dx : Nat) (bf : Option Addr) (bh : Nat) (dg : List Value) (hy : Array Value) (d5 : Heap), a' = ⟨hy, []⟩ ∧ Kn 74 [(d, 0), (f, 0), (m, 0)] [(tP 4 2 0)] hy ∧ Mem ⟨w, h, noX⟩ d5 [(d, 0), (f, 0), (m, 0)] [⟨(K67c10 aa r_ ab a b af ag), some 43⟩, ⟨[.func l g k], some 132⟩, ⟨(K67c9 av ah ax aw ay bf a6 bh), some 76⟩] [⟨du, a6.1.length, dw, 3, 1, ds, dx⟩, ⟨av, ah.2.1.length, ax, 3, 1, bl, 0⟩, ⟨aw, ah.2.2.1.length, ay, 3, 1, bo, 0⟩, ⟨bf, a6.2.length, bh, 31, 1, dg, 0⟩] w' ∧ Heap.le cw d5 ∧ Cells d5 a6.1 ds ∧ Cells d5 a6.2 dg) ?_ ?_
   ·
    refine wp_block ?_
    refine wp_loop_n (fun ol a' w' => ∃ (x_v30 : List Int) (x_v31 : List (List Int)) (x_v32 : Int) (a7 : Option Addr) (a8 : Nat) (bt : List Value) (f4 : Nat) (bp : Option Addr) (br : Nat) (cv : List Value) (hz : Array Value) (es : Heap), a' = ⟨hz, []⟩ ∧ Kn 74 [(d, 0), (f, 0), (m, 0)] (K67m19 x_v32 r_ a7 x_v30 a8) hz ∧ Mem ⟨w, h, noX⟩ es [(d, 0), (f, 0), (m, 0)] [⟨(K67c10 aa r_ ab a b af ag), some 43⟩, ⟨[.func l g k], some 132⟩, ⟨[.slice av ah.2.1.length ax, .slice aw ah.2.2.1.length ay, .slice bp x_v31.length br], some 76⟩] [⟨a7, x_v30.length, a8, 3, 1, bt, f4⟩, ⟨av, ah.2.1.length, ax, 3, 1, bl, 0⟩, ⟨aw, ah.2.2.1.length, ay, 3, 1, bo, 0⟩, ⟨bp, x_v31.length, br, 31, 1, cv, 0⟩] w' ∧ Heap.le cw es ∧ Cells es x_v30 bt ∧ Cells es x_v31 cv ∧ control_Route_ends_l3 ol r_ x_v30 x_v31 x_v32 = some a6) n ?_ ?_
    ·
     exact Exists.intro ah.1 ⟨ah.2.2.2, 0, ef, ek, fn, f3, e0, e5, fo, _, _, rfl, (mu.keep [63, 62, 5, 4] (by rfl)), ja, (Heap.le_refl _), j7, j8, h3⟩
    ·
     rintro fm _ qj ⟨x_v30, x_v31, x_v32, a7, a8, bt, f4, bp, br, cv, hz, es, rfl, mv, dq, dc, dn, d8, cg⟩
     clear h3
     obtain _ | fm := fm
     ·
      rw [control_Route_ends_l3] at cg; cases cg
     rw [control_Route_ends_l3] at cg
     replace aj := aj.mono dc
     replace ak := ak.mono dc
     replace al := al.mono dc
     replace ai := ai.mono dc
     replace bm := bm.mono dc
     replace bn := bn.mono dc
     refine wp_seq (wp_region_from (R_runk 0 1 [64, 63, 62, 5, 4] ((tB 64 (decide (x_v32 < ((r_.spares.length : Nat) : Int)))) :: (K67m19 x_v32 r_ a7 x_v30 a8)) mv dq.plOk (by kernel_rfl) fun ra gh => ?_))
     refine wpFrom_end (by decide) (wp_seq (wp_cond_sv (decide (x_v32 < ((r_.spares.length : Nat) : Int))) gh (by kernel_rfl) (fun f7 => ?_) (fun f7 => ?_)))
     ·
      rw [f7, cond_true] at cg
      refine wp_skip (wp_seq (wp_block (wp_region_G (by kernel_rfl) ?_)))
      replace dq := dq.drew
      refine wpG_of_D [] [(d, 0), (f, 0), (m, 0)] [⟨(K67c10 aa r_ ab a b af ag), some 43⟩, ⟨[.func l g k], some 132⟩, ⟨[.slice av ah.2.1.length ax, .slice aw ah.2.2.1.length ay, .slice bp x_v31.length br], some 76⟩] ?_
      refine D_run [0, 1, 2] [2, 1, 0] [67, 66, 63, 62, 5, 4] ((tS 67 a7 x_v30.length a8) :: (tS 66 bp x_v31.length br) :: (K67m19 x_v32 r_ a7 x_v30 a8)) (fun _ _ _ _ _ h => h) gh dq.plOk (by kernel_rfl) (by rfl) (by kernel_rfl) fun rb mw => ?_
      obtain ⟨ie, cx, oa, fi⟩ := dq.settle (i := 0) rfl
      replace aj := aj.mono cx
      replace ak := ak.mono cx
      replace al := al.mono cx
      replace ai := ai.mono cx
      replace dn := dn.mono cx
      replace bm := bm.mono cx
      replace bn := bn.mono cx
      replace d8 := d8.mono cx
      replace fi : Mem ⟨w, h, noX⟩ ie [(d, 0), (f, 0), (m, 0)] [⟨(K67c10 aa r_ ab a b af ag), some 43⟩, ⟨[.func l g k], some 132⟩, ⟨[.slice av ah.2.1.length ax, .slice aw ah.2.2.1.length ay, .slice bp x_v31.length br], some 76⟩] [⟨a7, x_v30.length, a8, 3, 1, bt, (bt : List Value).length⟩, ⟨av, ah.2.1.length, ax, 3, 1, bl, 0⟩, ⟨aw, ah.2.2.1.length, ay, 3, 1, bo, 0⟩, ⟨bp, x_v31.length, br, 31, 1, cv, 0⟩] (World.drew qj) := fi
      have g1 : RepS ie a7 a8 x_v30 := ⟨_, dn, oa, dq.rowCap (i := 0) rfl⟩
      obtain ⟨x68, ex68, cg⟩ := bnd cg
      refine D_loud 3 rfl (by kernel_rfl) (by decide) (rfl) fun K hK => ?_
      refine wp_call [.c (.slice a7 x_v30.length a8)] _ mw fi rfl rfl (by decide) (by rfl) rfl (fun _ _ => by kernel_rfl) (slices_Clone_int_int_ok fm fi.has x_v30 g1 ex68) fun rm d6 r6 jz cq jb => ?_
      replace aj := aj.mono cq
      replace ak := ak.mono cq
      replace al := al.mono cq
      replace ai := ai.mono cq
      replace g1 := g1.mono cq
      replace dn := dn.mono cq
      replace bm := bm.mono cq
      replace bn := bn.mono cq
      replace d8 := d8.mono cq
      obtain ⟨bq, bs, rfl, n7⟩ := jz
      refine ⟨.one (.c (.slice bq x68.length bs)), rfl, fun pr (mx : Kn 74 [(d, 0), (f, 0), (m, 0)] ((tS 68 bq x68.length bs) :: (tS 67 a7 x_v30.length a8) :: (tS 66 bp x_v31.length br) :: (K67m19 x_v32 r_ a7 x_v30 a8)) pr) => hK _ _ jb.plOk ?_⟩
      refine D_loud 4 rfl (by kernel_rfl) (by decide) (rfl) fun K hK => ?_
      refine wp_buildSlice 31 1 [.slice bq x68.length bs] mx jb rfl rfl (by decide) (by kernel_rfl) (by rfl) (by rfl) rfl (by decide) fun ei ps qk (my : Kn 74 [(d, 0), (f, 0), (m, 0)] ((tS 69 ei 1 1) :: (tS 68 bq x68.length bs) :: (tS 67 a7 x_v30.length a8) :: (tS 66 bp x_v31.length br) :: (K67m19 x_v32 r_ a7 x_v30 a8)) ps) (gw : Mem ⟨w, h, noX⟩ d6 [(d, 0), (f, 0), (m, 0)] [⟨(K67c10 aa r_ ab a b af ag), some 43⟩, ⟨[.func l g k], some 132⟩, ⟨[.slice av ah.2.1.length ax, .slice aw ah.2.2.1.length ay, .slice bp x_v31.length br], some 76⟩] [⟨a7, x_v30.length, a8, 3, 1, bt, (bt : List Value).length⟩, ⟨av, ah.2.1.length, ax, 3, 1, bl, 0⟩, ⟨aw, ah.2.2.1.length, ay, 3, 1, bo, 0⟩, ⟨bp, x_v31.length, br, 31, 1, cv, 0⟩, ⟨ei, 1, 1, 31, 1, ([.slice bq x68.length bs] : List Value), 0⟩] qk) => ?_
      have ga : Cells d6 ([x68] : List (List Int)) ([.slice bq x68.length bs] : List Value) := ⟨_, _, rfl, ((rep_slice n7) : rep d6 (x68 : List Int) _), rfl⟩
      refine hK _ _ gw.plOk ?_
      obtain ⟨x70, ex70, cg⟩ := bnd cg
      obtain ⟨ha, np⟩ := app_some ex70
      refine D_loud 5 rfl (by kernel_rfl) (by decide) (rfl) fun K hK => ?_
      refine wp_append 3 24 1 _ (x70.length) _ ([.slice bq x68.length bs] : List Value) my gw rfl rfl (by decide) rfl (by rfl) (by kernel_rfl) (by rfl) (by rfl) (Cells.len ga) (gw.rowCell (i := 4) rfl) ga.one (by rw [ha]; simp) (by rw [ha]; exact np) (by decide) fun c5 c9 ib pt ql kw (mz : Kn 74 [(d, 0), (f, 0), (m, 0)] [(70, .one (.c (.slice c5 x70.length c9))), (69, .one (.c (.slice ei 1 1))), (68, .one (.c (.slice bq x68.length bs))), (67, .one (.c (.slice a7 x_v30.length a8))), (66, .one (.c (.slice bp x_v31.length br))), (63, .one (.c (.int .i64 x_v32))), (62, .one (.c (.int .i64 ((r_.spares.length : Nat) : Int)))), (5, .one (.c (.slice a7 x_v30.length a8))), (4, .one (.c (.ptr 2 0)))] pt) (gx : Mem ⟨w, h, noX⟩ d6 [(d, 0), (f, 0), (m, 0)] [⟨[.slice aa r_.legs.length ab, .int .i64 r_.turn.lo, .int .i64 r_.turn.hi, .slice a r_.buses.length b, .slice af r_.spares.length ag, .int .i64 r_.unit, .int .i64 r_.gap, .int .i64 r_.fr, .int .i64 r_.to_], some 43⟩, ⟨[.func l g k], some 132⟩, ⟨[.slice av ah.2.1.length ax, .slice aw ah.2.2.1.length ay, .slice bp x_v31.length br], some 76⟩] [⟨a7, x_v30.length, a8, 3, 1, bt, (bt : List Value).length⟩, ⟨av, ah.2.1.length, ax, 3, 1, bl, 0⟩, ⟨aw, ah.2.2.1.length, ay, 3, 1, bo, 0⟩, ⟨c5, x70.length, c9, 31, 1, (cv ++ ([.slice bq x68.length bs] : List Value)), ib⟩, ⟨ei, 1, 1, 31, 1, ([.slice bq x68.length bs] : List Value), 0⟩] ql) => ?_
      have kn : Cells d6 x70 (cv ++ ([.slice bq x68.length bs] : List Value)) := by rw [ha]; exact Cells.append d8 ga
      obtain rfl : ib = 0 := Nat.le_zero.1 kw
      refine hK _ _ gx.plOk ?_
      refine D_run [6] [6, 5, 4, 3, 2, 1, 0] [71, 70, 63, 62, 5, 4] ((tP 71 2 2) :: (tS 70 c5 x70.length c9) :: (K67m19 x_v32 r_ a7 x_v30 a8)) (fun _ _ _ _ _ h => h) mz gx.plOk (by kernel_rfl) (by rfl) (by kernel_rfl) fun pu m0 => ?_
      refine D_sync 7 rfl (by kernel_rfl) (by decide) (rfl) (by kernel_rfl) fun K hK => ?_
      refine wp_store 2 2 (.c (.slice c5 x70.length c9)) [.slice av ah.2.1.length ax, .slice aw ah.2.2.1.length ay, .slice c5 x70.length c9] m0 gx rfl rfl (by rfl) (by rfl) (by rfl) (by kernel_rfl) (by kernel_rfl) (by rfl) fun qm m1 (jc : Mem ⟨w, h, noX⟩ d6 [(d, 0), (f, 0), (m, 0)] [⟨(K67c10 aa r_ ab a b af ag), some 43⟩, ⟨[.func l g k], some 132⟩, ⟨[.slice av ah.2.1.length ax, .slice aw ah.2.2.1.length ay, .slice c5 x70.length c9], some 76⟩] [⟨a7, x_v30.length, a8, 3, 1, bt, (bt : List Value).length⟩, ⟨av, ah.2.1.length, ax, 3, 1, bl, 0⟩, ⟨aw, ah.2.2.1.length, ay, 3, 1, bo, 0⟩, ⟨c5, x70.length, c9, 31, 1, (cv ++ ([.slice bq x68.length bs] : List Value)), 0⟩, ⟨ei, 1, 1, 31, 1, ([.slice bq x68.length bs] : List Value), 0⟩] qm) => hK _ _ ?_
      have m2 : Kn 74 [(d, 0), (f, 0), (m, 0)] (K67m19 x_v32 r_ a7 x_v30 a8) pu := m1.keep [63, 62, 5, 4] (by rfl)
      refine wpG_end (by kernel_rfl) (wp_region_from (R_runk 0 2 [63, 62, 5, 4] [(tI 63 (IntKind.i64.wrap (x_v32 + 1))), (tI 62 ((r_.spares.length : Nat) : Int)), (tS 5 a7 x_v30.length a8), (tP 4 2 0)] m2 jc.plOk (by kernel_rfl) fun rd m3 => ?_))
      refine wpFrom_end (by decide) ?_
      exact Exists.intro fm ⟨Nat.lt_succ_self _, Exists.intro x_v30 ⟨x70, (IntKind.i64.wrap (x_v32 + 1)), a7, a8, bt, ((bt : List Value).length), c5, c9, (cv ++ ([.slice bq x68.length bs] : List Value)), _, _, rfl, (m3.keep [63, 62, 5, 4] (by rfl)), (jc.cutRw 4), (Heap.le_trans dc (Heap.le_trans cx cq)), dn, kn, cg⟩⟩
     ·
      rw [f7, cond_false] at cg
      refine wp_exit ?_
      obtain rfl := Option.some.inj cg
      exact Exists.intro a7 ⟨a8, bt, f4, bp, br, cv, _, _, rfl, (gh.keep [4] (by rfl)), dq, dc, dn, d8⟩
   ·
    rintro _ r7 ⟨du, dw, ds, dx, bf, bh, dg, hy, d5, rfl, m4, jd, ec, d9, dp⟩
    replace aj := aj.mono ec
    replace ak := ak.mono ec
    replace al := al.mono ec
    replace ai := ai.mono ec
    replace bm := bm.mono ec
    replace bn := bn.mono ec
    refine wp_seq (wp_region_from (R_runk 0 1 [73, 4] [(tA 73 (K67c9 av ah ax aw ay bf a6 bh)), (tP 4 2 0)] m4 jd.plOk (by kernel_rfl) fun pv m5 => ?_))
    refine wpFrom_loud _ rfl (rfl) fun K hK => ?_
    refine wp_store 2 0 (.agg (K67c9 av ah ax aw ay bf a6 bh)) (K67c9 av ah ax aw ay bf a6 bh) m5 jd rfl rfl (by rfl) (by rfl) (by rfl) (by kernel_rfl) (by kernel_rfl) (by rfl) fun fv m6 (je : Mem ⟨w, h, noX⟩ d5 [(d, 0), (f, 0), (m, 0)] [⟨(K67c10 aa r_ ab a b af ag), some 43⟩, ⟨[.func l g k], some 132⟩, ⟨(K67c9 av ah ax aw ay bf a6 bh), some 76⟩] [⟨du, a6.1.length, dw, 3, 1, ds, dx⟩, ⟨av, ah.2.1.length, ax, 3, 1, bl, 0⟩, ⟨aw, ah.2.2.1.length, ay, 3, 1, bo, 0⟩, ⟨bf, a6.2.length, bh, 31, 1, dg, 0⟩] fv) => hK _ _ ?_
    have m7 : Kn 74 [(d, 0), (f, 0), (m, 0)] [(tP 4 2 0)] pv := m6.keep [4] (by rfl)
    refine wpFrom_end (by decide) (wp_ret ?_)
    obtain ⟨ig, dd, ob, fj⟩ := je.settle (i := 1) rfl
    replace aj := aj.mono dd
    replace ak := ak.mono dd
    replace al := al.mono dd
    replace ai := ai.mono dd
    replace d9 := d9.mono dd
    replace bm := bm.mono dd
    replace bn := bn.mono dd
    replace dp := dp.mono dd
    replace fj : Mem ⟨w, h, noX⟩ ig [(d, 0), (f, 0), (m, 0)] [⟨(K67c10 aa r_ ab a b af ag), some 43⟩, ⟨[.func l g k], some 132⟩, ⟨(K67c9 av ah ax aw ay bf a6 bh), some 76⟩] [⟨du, a6.1.length, dw, 3, 1, ds, dx⟩, ⟨av, ah.2.1.length, ax, 3, 1, bl, (bl : List Value).length⟩, ⟨aw, ah.2.2.1.length, ay, 3, 1, bo, 0⟩, ⟨bf, a6.2.length, bh, 31, 1, dg, 0⟩] fv := fj
    have ez : RepS ig av ax ah.2.1 := ⟨_, bm, ob, je.rowCap (i := 1) rfl⟩
    obtain ⟨ih, cy, oc, fk⟩ := fj.settle (i := 2) rfl
    replace aj := aj.mono cy
    replace ak := ak.mono cy
    replace al := al.mono cy
    replace ai := ai.mono cy
    replace ez := ez.mono cy
    replace d9 := d9.mono cy
    replace bm := bm.mono cy
    replace bn := bn.mono cy
    replace dp := dp.mono cy
    replace fk : Mem ⟨w, h, noX⟩ ih [(d, 0), (f, 0), (m, 0)] [⟨(K67c10 aa r_ ab a b af ag), some 43⟩, ⟨[.func l g k], some 132⟩, ⟨(K67c9 av ah ax aw ay bf a6 bh), some 76⟩] [⟨du, a6.1.length, dw, 3, 1, ds, dx⟩, ⟨av, ah.2.1.length, ax, 3, 1, bl, (bl : List Value).length⟩, ⟨aw, ah.2.2.1.length, ay, 3, 1, bo, (bo : List Value).length⟩, ⟨bf, a6.2.length, bh, 31, 1, dg, 0⟩] fv := fk
    have g2 : RepS ih aw ay ah.2.2.1 := ⟨_, bn, oc, fj.rowCap (i := 2) rfl⟩
    obtain ⟨f5, cr, od, gy⟩ := fk.settle (i := 3) rfl
    replace aj := aj.mono cr
    replace ak := ak.mono cr
    replace al := al.mono cr
    replace ai := ai.mono cr
    replace ez := ez.mono cr
    replace g2 := g2.mono cr
    replace d9 := d9.mono cr
    replace bm := bm.mono cr
    replace bn := bn.mono cr
    replace dp := dp.mono cr
    replace gy : Mem ⟨w, h, noX⟩ f5 [(d, 0), (f, 0), (m, 0)] [⟨(K67c10 aa r_ ab a b af ag), some 43⟩, ⟨[.func l g k], some 132⟩, ⟨(K67c9 av ah ax aw ay bf a6 bh), some 76⟩] [⟨du, a6.1.length, dw, 3, 1, ds, dx⟩, ⟨av, ah.2.1.length, ax, 3, 1, bl, (bl : List Value).length⟩, ⟨aw, ah.2.2.1.length, ay, 3, 1, bo, (bo : List Value).length⟩, ⟨bf, a6.2.length, bh, 31, 1, dg, (dg : List Value).length⟩] fv := gy
    have n8 : RepS f5 bf bh a6.2 := ⟨_, dp, od, fk.rowCap (i := 3) rfl⟩
    obtain rfl := Option.some.inj H
    exact ret_ok (.one (.agg (K67c9 av ah ax aw ay bf a6 bh))) m7 gy (by kernel_rfl) ⟨_, rfl, ((rep_pair (rep_slice ez) (rep_pair (rep_slice g2) (rep_slice n8))) : rep f5 ((Truth.mk ah.2.1 ah.2.2.1 a6.2) : Truth) _)⟩
end Go.Proofs.Ytokchpjijlebiaa
