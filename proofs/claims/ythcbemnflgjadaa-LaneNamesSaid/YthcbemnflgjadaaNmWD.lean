/- Each call computes its plain function. -/
import Derived.Test.YthcbemnflgjadaaProg
import Derived.Test.YthcbemnflgjadaaNmP0
import Derived.Test.YthcbemnflgjadaaNmS6
import Derived.Test.YthcbemnflgjadaaNmWB
import Derived.Test.YthcbemnflgjadaaNmWC
set_option linter.all false
namespace Go.Proofs.Ythcbemnflgjadaa
open Go Go.RowKit
open Rep (rep)
open KRep (kv)
open VRep (rv)
abbrev K64e1 (d f i : Nat) (b : Int) (k l : Nat) (c : Int) : Env := [(d, 0), (f, i + (b : Int).toNat * 1), (k, l + (c : Int).toNat * 1)]
abbrev K64c2 (n_ : Night) : List SC := [.bool n_.broken.a0, .bool n_.broken.a1, .bool n_.broken.a2, .bool n_.broken.a3, .bool n_.broken.a4, .bool n_.broken.a5, .bool n_.broken.a6, .bool n_.broken.a7]
abbrev K64c3 (m : Option Addr) (n_ : Night) (q : Nat) (p : Option Addr) (s : Nat) (a : Option Addr) (e : Nat) : List SC := [.slice m n_.yard.room.length q, .slice p n_.yard.buses.length s, .int .i64 n_.yard.broken, .slice a n_.lane.length e, .int .i64 n_.tm.a0, .int .i64 n_.tm.a1, .int .i64 n_.tm.a2, .int .i64 n_.tm.a3, .int .i64 n_.tm.a4, .int .i64 n_.tm.a5, .int .i64 n_.tm.a6, .int .i64 n_.tm.a7, .bool n_.broken.a0, .bool n_.broken.a1, .bool n_.broken.a2, .bool n_.broken.a3, .bool n_.broken.a4, .bool n_.broken.a5, .bool n_.broken.a6, .bool n_.broken.a7]
abbrev K64m4 (b c : Int) : TM := [(tP 3 0 0), (tI 1 b), (tI 2 c)]
set_option maxRecDepth 100000 in
set_option maxHeartbeats 4000000 in
theorem lane_night_before_ok (n : Nat) {h : Heap} {w : World} (hh : Has h w) (n_ : Night) {cs_n_ : List Value} (hx_n_ : rep h n_ cs_n_) (b : Int) (c : Int) {r : Bool} (H : lane_night_before n n_ b c = some r) :
  Calls Try.prog 64 #[.agg cs_n_.toArray, .int .i64 b, .int .i64 c] w (Ret (fun h v => v = .bool r) h w) := by
 obtain ⟨_, _, rfl, ⟨_, _, rfl, ⟨m, q, rfl, bu⟩, ⟨_, _, rfl, ⟨p, s, rfl, bv⟩, rfl⟩⟩, ⟨_, _, rfl, ⟨a, e, rfl, af⟩, ⟨_, _, rfl, ⟨_, _, rfl, rfl, ⟨_, _, rfl, rfl, ⟨_, _, rfl, rfl, ⟨_, _, rfl, rfl, ⟨_, _, rfl, rfl, ⟨_, _, rfl, rfl, ⟨_, _, rfl, rfl, rfl⟩⟩⟩⟩⟩⟩⟩, ⟨_, _, rfl, rfl, ⟨_, _, rfl, rfl, ⟨_, _, rfl, rfl, ⟨_, _, rfl, rfl, ⟨_, _, rfl, rfl, ⟨_, _, rfl, rfl, ⟨_, _, rfl, rfl, rfl⟩⟩⟩⟩⟩⟩⟩⟩⟩⟩ := hx_n_
 refine enter 29 [.agg (K64c3 m n_ q p s a e), .c (.int .i64 b), .c (.int .i64 c)] Try.func64 rfl rfl rfl rfl fun t hk => ?_
 have hm := Mem.begin h w hh
 unfold lane_night_before at H
 refine wp_seq (wp_region_from (wl fun K hK => ?_))
 refine wb (.agg (K64c3 m n_ q p s a e)) hk hm fun d bl b4 (al : Kn 29 [(d, 0)] [(tP 3 0 0), (tA 0 (K64c3 m n_ q p s a e)), (tI 1 b), (tI 2 c)] bl) u => hK _ _ ?_
 refine Rk 1 1 (K64m4 b c) al u fun bw am => ?_
 refine wf (wp_seq (wp_region_G (by kernel_rfl) ?_))
 replace u := u.drew
 refine wpG_of_D [] [(d, 0)] [⟨(K64c3 m n_ q p s a e), some 76⟩] ?_
 refine Dr [0, 1, 2] [2, 1, 0] ((tI 9 b) :: (tS 8 a n_.lane.length e) :: (K64m4 b c)) am u fun bx an => ?_
 obtain ⟨x10, ex10, H⟩ := bnd H
 obtain ⟨az, bb, bh⟩ := idx_some ex10
 obtain ⟨f, i, bs, ah, bf, aj⟩ := af.get (by decide) bh
 obtain rfl := bf
 have ad := u.addPlc (b := f) (o := i + (b : Int).toNat * 1) (cs := [.int .i64 x10]) (fun j c hj => aj j _ (map_get hj)) rfl (by kernel_rfl) (by kernel_rfl)
 refine D_index 3 (b) [.int .i64 x10] (fun _ _ _ _ _ h => h) rfl rfl (rfl) rfl (by decide) (by kernel_rfl) (by kernel_rfl) an u.plOk (by rfl) (by rfl) (by rfl) ah (by rfl) az bb (by kernel_rfl) fun bm (ao : Kn 29 [(d, 0), (f, i + (b : Int).toNat * 1)] ((tP 10 1 0) :: (tI 9 b) :: (tS 8 a n_.lane.length e) :: (K64m4 b c)) bm) => ?_
 refine Dr [4, 5, 6, 7] (dn 7) ((tI 14 c) :: (tS 13 a n_.lane.length e) :: (tI 11 x10) :: (K64m4 b c)) ao ad fun bz ap => ?_
 obtain ⟨x15, ex15, H⟩ := bnd H
 obtain ⟨a8, bc, bi⟩ := idx_some ex15
 obtain ⟨k, l, bt, ai, bg, ak⟩ := af.get (by decide) bi
 obtain rfl := bg
 have g := ad.addPlc (b := k) (o := l + (c : Int).toNat * 1) (cs := [.int .i64 x15]) (fun j c hj => ak j _ (map_get hj)) rfl (by kernel_rfl) (by kernel_rfl)
 refine D_index 8 (c) [.int .i64 x15] (fun _ _ _ _ _ h => h) rfl rfl (rfl) rfl (by decide) (by kernel_rfl) (by kernel_rfl) ap ad.plOk (by rfl) (by rfl) (by rfl) ai (by rfl) a8 bc (by kernel_rfl) fun bn (aq : Kn 29 (K64e1 d f i b k l c) ((tP 15 2 0) :: (tI 14 c) :: (tS 13 a n_.lane.length e) :: (tI 11 x10) :: (K64m4 b c)) bn) => ?_
 refine Dr [9, 10, 11] (dn 11) ((tB 18 (x10 == x15)) :: (K64m4 b c)) aq g fun ag ae => ?_
 rcases Bool.eq_false_or_eq_true ((x10 == x15)) with x | x
 ·
  rw [x, cond_true] at H
  have ar : Kn 29 (K64e1 d f i b k l c) ((tB 18 true) :: (K64m4 b c)) ag := (ae.setB 18 true (by rfl) x).kp
  refine Dr [12, 13] (dn 13) [(tP 20 0 4), (tI 19 b), (tB 18 true), (tP 3 0 0), (tI 2 c)] ar g fun b0 z => ?_
  obtain ⟨x21, ex21, H⟩ := bnd H
  obtain ⟨a9, bd⟩ := rng_some ex21
  refine D_one 14 (.one (.c (.ptr 0 (4 + (b : Int).toNat * 1)))) (fun _ _ _ _ _ h => h) rfl (by kernel_rfl) (by kernel_rfl) (wantedS_sound z (by kernel_rfl)) rfl g.plOk (fun _ h => h) (fun w => run_indexA (E := 3) z rfl (by kernel_rfl) (by kernel_rfl) (by rfl) (by rfl) a9 bd) (z.put (by decide) _) fun bo (aa : Kn 29 (K64e1 d f i b k l c) [(tP 21 0 (4 + (b : Int).toNat * 1)), (tP 20 0 4), (tI 19 b), (tB 18 true), (tP 3 0 0), (tI 2 c)] bo) => ?_
  obtain ⟨x22, ex22, H⟩ := bnd H
  obtain ⟨_, _, bj⟩ := idx_some ex22
  refine D_oneP 15 (.one (.c (.int .i64 x22))) (fun _ _ _ _ _ h => h) rfl (by kernel_rfl) (by kernel_rfl) (by kernel_rfl) (wantedS_sound aa (by kernel_rfl)) rfl g.plOk (fun w hw => run_loadAt1 aa hw rfl (by rfl) rfl (by kernel_rfl) (arr_get (fun (y : Int) => ([.int .i64 y] : List SC)) 1 (fun _ => rfl) [.slice m n_.yard.room.length q, .slice p n_.yard.buses.length s, .int .i64 n_.yard.broken, .slice a n_.lane.length e] (K64c2 n_) n_.tm.toL _ _ bj rfl rfl)) (aa.put (by decide) _) fun bp (au : Kn 29 (K64e1 d f i b k l c) [(tI 22 x22), (tP 21 0 (4 + (b : Int).toNat * 1)), (tP 20 0 4), (tI 19 b), (tB 18 true), (tP 3 0 0), (tI 2 c)] bp) => ?_
  refine Dr [16, 17] (dn 17) [(tP 24 0 4), (tI 23 c), (tI 22 x22), (tB 18 true)] au g fun b1 ab => ?_
  obtain ⟨x25, ex25, H⟩ := bnd H
  obtain ⟨ba, be⟩ := rng_some ex25
  refine D_one 18 (.one (.c (.ptr 0 (4 + (c : Int).toNat * 1)))) (fun _ _ _ _ _ h => h) rfl (by kernel_rfl) (by kernel_rfl) (wantedS_sound ab (by kernel_rfl)) rfl g.plOk (fun _ h => h) (fun w => run_indexA (E := 3) ab rfl (by kernel_rfl) (by kernel_rfl) (by rfl) (by rfl) ba be) (ab.put (by decide) _) fun bq (ac : Kn 29 (K64e1 d f i b k l c) [(tP 25 0 (4 + (c : Int).toNat * 1)), (tP 24 0 4), (tI 23 c), (tI 22 x22), (tB 18 true)] bq) => ?_
  obtain ⟨x26, ex26, H⟩ := bnd H
  obtain ⟨_, _, bk⟩ := idx_some ex26
  refine D_oneP 19 (.one (.c (.int .i64 x26))) (fun _ _ _ _ _ h => h) rfl (by kernel_rfl) (by kernel_rfl) (by kernel_rfl) (wantedS_sound ac (by kernel_rfl)) rfl g.plOk (fun w hw => run_loadAt1 ac hw rfl (by rfl) rfl (by kernel_rfl) (arr_get (fun (y : Int) => ([.int .i64 y] : List SC)) 1 (fun _ => rfl) [.slice m n_.yard.room.length q, .slice p n_.yard.buses.length s, .int .i64 n_.yard.broken, .slice a n_.lane.length e] (K64c2 n_) n_.tm.toL _ _ bk rfl rfl)) (ac.put (by decide) _) fun br (av : Kn 29 (K64e1 d f i b k l c) [(tI 26 x26), (tP 25 0 (4 + (c : Int).toNat * 1)), (tP 24 0 4), (tI 23 c), (tI 22 x22), (tB 18 true)] br) => ?_
  refine Dr [20, 21, 22] (dn 22) [(tB 6 (decide (x22 < x26)))] av g fun b2 aw => ?_
  refine wpD_end (by kernel_rfl) (wp_ret ?_)
  obtain rfl := Option.some.inj H
  exact rt (.one (.c (.bool (decide (x22 < x26))))) aw g rfl
 ·
  rw [x, cond_false] at H
  have ax : Kn 29 (K64e1 d f i b k l c) ((tB 18 false) :: (K64m4 b c)) ag := (ae.setB 18 false (by rfl) x).kp
  refine Dr [12, 13, 14, 15, 16, 17, 18, 19, 20, 21, 22] (dn 22) [(tB 6 false)] ax g fun b3 ay => ?_
  refine wpD_end (by kernel_rfl) (wp_ret ?_)
  obtain rfl := Option.some.inj H
  exact rt (.one (.c (.bool false))) ay g rfl
abbrev K66c1 (q0 : Night) : List SC := [.bool q0.broken.a0, .bool q0.broken.a1, .bool q0.broken.a2, .bool q0.broken.a3, .bool q0.broken.a4, .bool q0.broken.a5, .bool q0.broken.a6, .bool q0.broken.a7]
abbrev K66c2 (a : Option Addr) (q0 : Night) (g : Nat) (b : Option Addr) (i : Nat) (f : Option Addr) (k : Nat) : List SC := [.slice a q0.yard.room.length g, .slice b q0.yard.buses.length i, .int .i64 q0.yard.broken, .slice f q0.lane.length k, .int .i64 q0.tm.a0, .int .i64 q0.tm.a1, .int .i64 q0.tm.a2, .int .i64 q0.tm.a3, .int .i64 q0.tm.a4, .int .i64 q0.tm.a5, .int .i64 q0.tm.a6, .int .i64 q0.tm.a7, .bool q0.broken.a0, .bool q0.broken.a1, .bool q0.broken.a2, .bool q0.broken.a3, .bool q0.broken.a4, .bool q0.broken.a5, .bool q0.broken.a6, .bool q0.broken.a7]
set_option maxRecDepth 100000 in
set_option maxHeartbeats 4000000 in
theorem lane_night_morning_1_ok (n : Nat) {h : Heap} {w : World} (hh : Has h w) (c : Int) (d : Int) (q0 : Night) {b_q0 : Nat} (hb_q0 : BoxS h b_q0 q0) {r : Int} (H : lane_night_morning_1 n c d q0 = some r) :
  Calls Try.prog 66 #[.int .i64 c, .int .i64 d, .pointer (some ⟨b_q0, 0, none⟩)] w (Ret (fun h v => v = .int .i64 r) h w) := by
 obtain ⟨_, hx_q0, hc_q0⟩ := id hb_q0
 obtain ⟨_, _, rfl, ⟨_, _, rfl, ⟨a, g, rfl, ak⟩, ⟨_, _, rfl, ⟨b, i, rfl, al⟩, rfl⟩⟩, ⟨_, _, rfl, ⟨f, k, rfl, am⟩, ⟨_, _, rfl, ⟨_, _, rfl, rfl, ⟨_, _, rfl, rfl, ⟨_, _, rfl, rfl, ⟨_, _, rfl, rfl, ⟨_, _, rfl, rfl, ⟨_, _, rfl, rfl, ⟨_, _, rfl, rfl, rfl⟩⟩⟩⟩⟩⟩⟩, ⟨_, _, rfl, rfl, ⟨_, _, rfl, rfl, ⟨_, _, rfl, rfl, ⟨_, _, rfl, rfl, ⟨_, _, rfl, rfl, ⟨_, _, rfl, rfl, ⟨_, _, rfl, rfl, rfl⟩⟩⟩⟩⟩⟩⟩⟩⟩⟩ := hx_q0
 refine enter' (e := [(b_q0, 0)]) 15 [.c (.int .i64 c), .c (.int .i64 d), .c (.ptr 0 0)] Try.func66 rfl rfl rfl rfl fun t hk => ?_
 have hm := Mem.begin h w hh
 replace hm := hm.addPlc (o := 0) (cs := [.slice a q0.yard.room.length g, .slice b q0.yard.buses.length i, .int .i64 q0.yard.broken, .slice f q0.lane.length k, .int .i64 q0.tm.a0, .int .i64 q0.tm.a1, .int .i64 q0.tm.a2, .int .i64 q0.tm.a3, .int .i64 q0.tm.a4, .int .i64 q0.tm.a5, .int .i64 q0.tm.a6, .int .i64 q0.tm.a7, .bool q0.broken.a0, .bool q0.broken.a1, .bool q0.broken.a2, .bool q0.broken.a3, .bool q0.broken.a4, .bool q0.broken.a5, .bool q0.broken.a6, .bool q0.broken.a7]) (fun j c hj => by rw [Nat.zero_add]; exact hc_q0 j _ (map_get hj)) rfl (by kernel_rfl) (by kernel_rfl)
 replace hm : Mem ⟨w, h, noX⟩ h [(b_q0, 0)] [⟨(K66c2 a q0 g b i f k), none⟩] [] w := hm
 unfold lane_night_morning_1 at H
 refine wp_seq (wp_region_from (Rk 0 1 [(tI 0 c), (tI 1 d), (tP 2 0 0)] hk hm fun an s => ?_))
 refine wf (wp_seq (wp_region_G (by kernel_rfl) ?_))
 replace hm := hm.drew
 refine wpG_of_D [] [(b_q0, 0)] [⟨(K66c2 a q0 g b i f k), none⟩] ?_
 refine Dr [0, 1] [1, 0] [(tP 7 0 4), (tI 6 c), (tI 1 d), (tP 2 0 0)] s hm fun ao l => ?_
 obtain ⟨x8, ex8, H⟩ := bnd H
 obtain ⟨aa, ac⟩ := rng_some ex8
 refine D_one 2 (.one (.c (.ptr 0 (4 + (c : Int).toNat * 1)))) (fun _ _ _ _ _ h => h) rfl (by kernel_rfl) (by kernel_rfl) (rfl) rfl hm.plOk (fun _ h => h) (fun w => run_indexA (E := 3) l rfl (by kernel_rfl) (by kernel_rfl) (by rfl) (by rfl) aa ac) (l.put (by decide) _) fun ag (m : Kn 15 [(b_q0, 0)] [(tP 8 0 (4 + (c : Int).toNat * 1)), (tP 7 0 4), (tI 6 c), (tI 1 d), (tP 2 0 0)] ag) => ?_
 obtain ⟨x9, ex9, H⟩ := bnd H
 obtain ⟨_, _, ae⟩ := idx_some ex9
 refine D_oneP 3 (.one (.c (.int .i64 x9))) (fun _ _ _ _ _ h => h) rfl (by kernel_rfl) (by kernel_rfl) (by kernel_rfl) (rfl) rfl hm.plOk (fun w hw => run_loadAt1 m hw rfl (by rfl) rfl (by kernel_rfl) (arr_get (fun (y : Int) => ([.int .i64 y] : List SC)) 1 (fun _ => rfl) [.slice a q0.yard.room.length g, .slice b q0.yard.buses.length i, .int .i64 q0.yard.broken, .slice f q0.lane.length k] (K66c1 q0) q0.tm.toL _ _ ae rfl rfl)) (m.put (by decide) _) fun ah (u : Kn 15 [(b_q0, 0)] [(tI 9 x9), (tP 8 0 (4 + (c : Int).toNat * 1)), (tP 7 0 4), (tI 6 c), (tI 1 d), (tP 2 0 0)] ah) => ?_
 refine Dr [4, 5] (dn 5) [(tP 11 0 4), (tI 10 d), (tI 9 x9)] u hm fun ap p => ?_
 obtain ⟨x12, ex12, H⟩ := bnd H
 obtain ⟨ab, ad⟩ := rng_some ex12
 refine D_one 6 (.one (.c (.ptr 0 (4 + (d : Int).toNat * 1)))) (fun _ _ _ _ _ h => h) rfl (by kernel_rfl) (by kernel_rfl) (rfl) rfl hm.plOk (fun _ h => h) (fun w => run_indexA (E := 3) p rfl (by kernel_rfl) (by kernel_rfl) (by rfl) (by rfl) ab ad) (p.put (by decide) _) fun ai (q : Kn 15 [(b_q0, 0)] [(tP 12 0 (4 + (d : Int).toNat * 1)), (tP 11 0 4), (tI 10 d), (tI 9 x9)] ai) => ?_
 obtain ⟨x13, ex13, H⟩ := bnd H
 obtain ⟨_, _, af⟩ := idx_some ex13
 refine D_oneP 7 (.one (.c (.int .i64 x13))) (fun _ _ _ _ _ h => h) rfl (by kernel_rfl) (by kernel_rfl) (by kernel_rfl) (rfl) rfl hm.plOk (fun w hw => run_loadAt1 q hw rfl (by rfl) rfl (by kernel_rfl) (arr_get (fun (y : Int) => ([.int .i64 y] : List SC)) 1 (fun _ => rfl) [.slice a q0.yard.room.length g, .slice b q0.yard.buses.length i, .int .i64 q0.yard.broken, .slice f q0.lane.length k] (K66c1 q0) q0.tm.toL _ _ af rfl rfl)) (q.put (by decide) _) fun aj (x : Kn 15 [(b_q0, 0)] [(tI 13 x13), (tP 12 0 (4 + (d : Int).toNat * 1)), (tP 11 0 4), (tI 10 d), (tI 9 x9)] aj) => ?_
 refine Dr [8, 9] (dn 9) [(tI 5 (IntKind.i64.wrap (x9 - x13)))] x hm fun aq z => ?_
 refine wpD_end (by kernel_rfl) (wp_ret ?_)
 obtain rfl := Option.some.inj H
 exact rt (.one (.c (.int .i64 (IntKind.i64.wrap (x9 - x13))))) z hm rfl
abbrev K43e1 (b o p q : Nat) : Env := [(b, 0), (o, 0), (p, 0), (q, 0)]
abbrev K43c2 : List SC := [.bool false, .bool false, .bool false, .bool false, .bool false, .bool false, .bool false, .bool false]
abbrev K43c3 (s : ((List (List Int)) × Some)) : List SC := [.bool s.2.a0, .bool s.2.a1, .bool s.2.a2, .bool s.2.a3, .bool s.2.a4, .bool s.2.a5, .bool s.2.a6, .bool s.2.a7]
abbrev K43c4 (x_v12 : Some) : List SC := [.bool x_v12.a0, .bool x_v12.a1, .bool x_v12.a2, .bool x_v12.a3, .bool x_v12.a4, .bool x_v12.a5, .bool x_v12.a6, .bool x_v12.a7]
abbrev K43c5 (ah : Some) : List SC := [.bool ah.a0, .bool ah.a1, .bool ah.a2, .bool ah.a3, .bool ah.a4, .bool ah.a5, .bool ah.a6, .bool ah.a7]
abbrev K43c6 (u : ((List Int) × Some)) : List SC := [.bool u.2.a0, .bool u.2.a1, .bool u.2.a2, .bool u.2.a3, .bool u.2.a4, .bool u.2.a5, .bool u.2.a6, .bool u.2.a7]
abbrev K43c7 (n_ : Night) : List SC := [.bool n_.broken.a0, .bool n_.broken.a1, .bool n_.broken.a2, .bool n_.broken.a3, .bool n_.broken.a4, .bool n_.broken.a5, .bool n_.broken.a6, .bool n_.broken.a7]
abbrev K43c8 (d : Option Addr) (n_ : Night) (g : Nat) (f : Option Addr) (j : Nat) (l : Option Addr) (m : Nat) : List SC := [.slice d n_.yard.room.length g, .slice f n_.yard.buses.length j, .int .i64 n_.yard.broken, .slice l n_.lane.length m, .int .i64 n_.tm.a0, .int .i64 n_.tm.a1, .int .i64 n_.tm.a2, .int .i64 n_.tm.a3, .int .i64 n_.tm.a4, .int .i64 n_.tm.a5, .int .i64 n_.tm.a6, .int .i64 n_.tm.a7, .bool n_.broken.a0, .bool n_.broken.a1, .bool n_.broken.a2, .bool n_.broken.a3, .bool n_.broken.a4, .bool n_.broken.a5, .bool n_.broken.a6, .bool n_.broken.a7]
abbrev K43c9 (d : Option Addr) (n_ : Night) (g : Nat) (f : Option Addr) (j : Nat) (l : Option Addr) (m : Nat) : List SC := [.func (.func 64) #[.agg #[.slice d n_.yard.room.length g, .slice f n_.yard.buses.length j, .int .i64 n_.yard.broken, .slice l n_.lane.length m, .int .i64 n_.tm.a0, .int .i64 n_.tm.a1, .int .i64 n_.tm.a2, .int .i64 n_.tm.a3, .int .i64 n_.tm.a4, .int .i64 n_.tm.a5, .int .i64 n_.tm.a6, .int .i64 n_.tm.a7, .bool n_.broken.a0, .bool n_.broken.a1, .bool n_.broken.a2, .bool n_.broken.a3, .bool n_.broken.a4, .bool n_.broken.a5, .bool n_.broken.a6, .bool n_.broken.a7]] #[]]
abbrev K43p10 (d : Option Addr) (n_ : Night) (g : Nat) (f : Option Addr) (j : Nat) (l : Option Addr) (m : Nat) (z : Option Addr) (s : ((List (List Int)) × Some)) (ab : Nat) : List Plc := [⟨(K43c8 d n_ g f j l m), none⟩, ⟨[.slice z s.1.length ab], some 60⟩, ⟨(K43c3 s), some 74⟩, ⟨(K43c9 d n_ g f j l m), some 112⟩]
abbrev K43m11 (x_v11 : Int) (n_ : Night) (ac : Option Addr) (x_v10 : List Int) (ad : Nat) (x15 : Int) : TM := [(tI 20 x_v11), (tI 19 ((n_.yard.buses.length : Nat) : Int)), (tS 6 ac x_v10.length ad), (tI 5 x15), (tP 4 3 0), (tP 3 2 0), (tP 2 1 0), (tP 1 0 0)]
abbrev K43m12 : TM := [(tP 3 2 0), (tP 2 1 0), (tP 1 0 0)]
abbrev K43m13 (x_v11 : Int) (n_ : Night) (x15 : Int) : TM := (tI 20 x_v11) :: (tI 19 ((n_.yard.buses.length : Nat) : Int)) :: (tI 5 x15) :: (tP 4 3 0) :: K43m12
set_option maxRecDepth 100000 in
set_option maxHeartbeats 4000000 in
theorem lane_night_morning_ok (n : Nat) {h : Heap} {w : World} (hh : Has h w) (n_ : Night) {cs_n_ : List Value} (hx_n_ : rep h n_ cs_n_) {r : List (List Int)} (H : lane_night_morning n n_ = some r) :
  Calls Try.prog 43 #[.agg cs_n_.toArray] w (Ret (fun h v => ∃ a c, v = .slice a r.length c ∧ RepS h a c r) h w) := by
 obtain ⟨_, _, rfl, ⟨_, _, rfl, ⟨d, g, rfl, ap⟩, ⟨_, _, rfl, ⟨f, j, rfl, aq⟩, rfl⟩⟩, ⟨_, _, rfl, ⟨l, m, rfl, av⟩, ⟨_, _, rfl, ⟨_, _, rfl, rfl, ⟨_, _, rfl, rfl, ⟨_, _, rfl, rfl, ⟨_, _, rfl, rfl, ⟨_, _, rfl, rfl, ⟨_, _, rfl, rfl, ⟨_, _, rfl, rfl, rfl⟩⟩⟩⟩⟩⟩⟩, ⟨_, _, rfl, rfl, ⟨_, _, rfl, rfl, ⟨_, _, rfl, rfl, ⟨_, _, rfl, rfl, ⟨_, _, rfl, rfl, ⟨_, _, rfl, rfl, ⟨_, _, rfl, rfl, rfl⟩⟩⟩⟩⟩⟩⟩⟩⟩⟩ := hx_n_
 refine enterMk (e := []) 50 [.agg (K43c8 d n_ g f j l m)] Try.func43 rfl rfl rfl rfl fun t hk => ?_
 have hm := Mem.begin h w hh
 unfold lane_night_morning at H
 refine wp_seq (wp_region_from (wl fun K hK => ?_))
 refine wb (.agg (K43c8 d n_ g f j l m)) hk hm fun b gv im (el : Kn 50 [(b, 0)] [(tP 1 0 0), (tA 0 (K43c8 d n_ g f j l m))] gv) f3 => hK _ _ ?_
 refine wl fun K hK => ?_
 refine wa [.slice none 0 0] el f3 fun o dp ir (ex : Kn 50 [(b, 0), (o, 0)] [(tP 2 1 0), (tP 1 0 0), (tA 0 (K43c8 d n_ g f j l m))] dp) f4 => hK _ _ ?_
 have e4 : Kn 50 [(b, 0), (o, 0)] [(tP 2 1 0), (tP 1 0 0)] dp := ex.kp
 refine wf (wp_seq (wp_region_from (wl fun K hK => ?_)))
 refine wa K43c2 e4 f4 fun p g2 ix (fc : Kn 50 [(b, 0), (o, 0), (p, 0)] K43m12 g2) df => hK _ _ ?_
 refine wf (wp_seq (wp_region_from (Rk 0 1 ((tA 8 (K43c8 d n_ g f j l m)) :: K43m12) fc df fun ib fi => ?_)))
 refine R_func 1 #[.agg #[.slice d n_.yard.room.length g, .slice f n_.yard.buses.length j, .int .i64 n_.yard.broken, .slice l n_.lane.length m, .int .i64 n_.tm.a0, .int .i64 n_.tm.a1, .int .i64 n_.tm.a2, .int .i64 n_.tm.a3, .int .i64 n_.tm.a4, .int .i64 n_.tm.a5, .int .i64 n_.tm.a6, .int .i64 n_.tm.a7, .bool n_.broken.a0, .bool n_.broken.a1, .bool n_.broken.a2, .bool n_.broken.a3, .bool n_.broken.a4, .bool n_.broken.a5, .bool n_.broken.a6, .bool n_.broken.a7]] #[] fi rfl rfl (rfl) rfl (by decide) (by rfl) (by rfl) (by rfl) (by rfl) fun g4 (fj : Kn 50 [(b, 0), (o, 0), (p, 0)] ((9, .one (.c (.func (.func 64) #[.agg #[.slice d n_.yard.room.length g, .slice f n_.yard.buses.length j, .int .i64 n_.yard.broken, .slice l n_.lane.length m, .int .i64 n_.tm.a0, .int .i64 n_.tm.a1, .int .i64 n_.tm.a2, .int .i64 n_.tm.a3, .int .i64 n_.tm.a4, .int .i64 n_.tm.a5, .int .i64 n_.tm.a6, .int .i64 n_.tm.a7, .bool n_.broken.a0, .bool n_.broken.a1, .bool n_.broken.a2, .bool n_.broken.a3, .bool n_.broken.a4, .bool n_.broken.a5, .bool n_.broken.a6, .bool n_.broken.a7]] #[]))) :: (tA 8 (K43c8 d n_ g f j l m)) :: K43m12) g4) => ?_
 refine wl fun K hK => ?_
 refine wa [.nilfunc] fj df fun q dt i1 (fn : Kn 50 (K43e1 b o p q) ((tP 4 3 0) :: (9, .one (.c (.func (.func 64) #[.agg #[.slice d n_.yard.room.length g, .slice f n_.yard.buses.length j, .int .i64 n_.yard.broken, .slice l n_.lane.length m, .int .i64 n_.tm.a0, .int .i64 n_.tm.a1, .int .i64 n_.tm.a2, .int .i64 n_.tm.a3, .int .i64 n_.tm.a4, .int .i64 n_.tm.a5, .int .i64 n_.tm.a6, .int .i64 n_.tm.a7, .bool n_.broken.a0, .bool n_.broken.a1, .bool n_.broken.a2, .bool n_.broken.a3, .bool n_.broken.a4, .bool n_.broken.a5, .bool n_.broken.a6, .bool n_.broken.a7]] #[]))) :: (tA 8 (K43c8 d n_ g f j l m)) :: K43m12) dt) f8 => hK _ _ ?_
 refine wl fun K hK => ?_
 refine wst 3 0 (.c (.func (.func 64) #[.agg #[.slice d n_.yard.room.length g, .slice f n_.yard.buses.length j, .int .i64 n_.yard.broken, .slice l n_.lane.length m, .int .i64 n_.tm.a0, .int .i64 n_.tm.a1, .int .i64 n_.tm.a2, .int .i64 n_.tm.a3, .int .i64 n_.tm.a4, .int .i64 n_.tm.a5, .int .i64 n_.tm.a6, .int .i64 n_.tm.a7, .bool n_.broken.a0, .bool n_.broken.a1, .bool n_.broken.a2, .bool n_.broken.a3, .bool n_.broken.a4, .bool n_.broken.a5, .bool n_.broken.a6, .bool n_.broken.a7]] #[])) (K43c9 d n_ g f j l m) fn f8 fun i2 fo ci => hK _ _ ?_
 have fp : Kn 50 (K43e1 b o p q) ((tP 4 3 0) :: K43m12) dt := fo.kp
 refine wf (wp_seq (wp_seq (wp_region_from (Rk 0 4 ((tA 13 (K43c7 n_)) :: (tA 11 [.slice d n_.yard.room.length g, .slice f n_.yard.buses.length j, .int .i64 n_.yard.broken]) :: (tP 4 3 0) :: K43m12) fp ci fun ic fq => ?_))))
 obtain ⟨x14, ex14, H⟩ := bnd H
 refine wl fun K hK => ?_
 refine wc [.agg [.slice d n_.yard.room.length g, .slice f n_.yard.buses.length j, .int .i64 n_.yard.broken], .agg (K43c7 n_)] fq ci (lane_Yard_turns_ok n ci.has n_.yard ((rep_pair (rep_slice ap) (rep_pair (rep_slice aq) rep_int)) : rep h n_.yard _) n_.broken ((rep_pair rep_bool (rep_pair rep_bool (rep_pair rep_bool (rep_pair rep_bool (rep_pair rep_bool (rep_pair rep_bool (rep_pair rep_bool rep_bool))))))) : rep h n_.broken _) ex14) fun ik ho ay d6 cb f9 => ?_
 obtain ⟨bp, rfl, bb⟩ := d6
 refine ⟨.one (.c (.func (.func 107) #[] #[.pointer (some ⟨bp, 0, none⟩)])), rfl, fun du (fr : Kn 50 (K43e1 b o p q) ((14, .one (.c (.func (.func 107) #[] #[.pointer (some ⟨bp, 0, none⟩)]))) :: (tA 13 (K43c7 n_)) :: (tA 11 [.slice d n_.yard.room.length g, .slice f n_.yard.buses.length j, .int .i64 n_.yard.broken]) :: (tP 4 3 0) :: K43m12) du) => hK _ _ ?_⟩
 have b9 : Kn 50 (K43e1 b o p q) ((14, .one (.c (.func (.func 107) #[] #[.pointer (some ⟨bp, 0, none⟩)]))) :: (tP 4 3 0) :: K43m12) du := fr.kp
 refine wf (wp_block ?_)
 obtain ⟨ba, bw, c0, cj⟩ := f9.settlePlc (i := 0) rfl
 replace ap := ap.mono (Heap.le_trans cb bw)
 replace aq := aq.mono (Heap.le_trans cb bw)
 replace av := av.mono (Heap.le_trans cb bw)
 replace bb := bb.mono bw
 replace cj : Mem ⟨w, h, noX⟩ ba (K43e1 b o p q) [⟨(K43c8 d n_ g f j l m), none⟩, ⟨[.slice none 0 0], some 60⟩, ⟨K43c2, some 74⟩, ⟨(K43c9 d n_ g f j l m), some 112⟩] [] ay := cj
 have bc : BoxS ba b (n_ : Night) := BoxS.of (e := (K43e1 b o p q)) (cs := (K43c8 d n_ g f j l m)) ((rep_pair (rep_pair (rep_slice ap) (rep_pair (rep_slice aq) rep_int)) (rep_pair (rep_slice av) (rep_pair (rep_pair rep_int (rep_pair rep_int (rep_pair rep_int (rep_pair rep_int (rep_pair rep_int (rep_pair rep_int (rep_pair rep_int rep_int))))))) (rep_pair rep_bool (rep_pair rep_bool (rep_pair rep_bool (rep_pair rep_bool (rep_pair rep_bool (rep_pair rep_bool (rep_pair rep_bool rep_bool)))))))))) : rep ba (n_ : Night) _) rfl c0
 have br : CellsAt ba b [.slice d n_.yard.room.length g, .slice f n_.yard.buses.length j, .int .i64 n_.yard.broken, .slice l n_.lane.length m, .int .i64 n_.tm.a0, .int .i64 n_.tm.a1, .int .i64 n_.tm.a2, .int .i64 n_.tm.a3, .int .i64 n_.tm.a4, .int .i64 n_.tm.a5, .int .i64 n_.tm.a6, .int .i64 n_.tm.a7, .bool n_.broken.a0, .bool n_.broken.a1, .bool n_.broken.a2, .bool n_.broken.a3, .bool n_.broken.a4, .bool n_.broken.a5, .bool n_.broken.a6, .bool n_.broken.a7] := CellsAt.of (e := [(b, 0), (o, 0), (p, 0), (q, 0)]) (cs := [.slice d n_.yard.room.length g, .slice f n_.yard.buses.length j, .int .i64 n_.yard.broken, .slice l n_.lane.length m, .int .i64 n_.tm.a0, .int .i64 n_.tm.a1, .int .i64 n_.tm.a2, .int .i64 n_.tm.a3, .int .i64 n_.tm.a4, .int .i64 n_.tm.a5, .int .i64 n_.tm.a6, .int .i64 n_.tm.a7, .bool n_.broken.a0, .bool n_.broken.a1, .bool n_.broken.a2, .bool n_.broken.a3, .bool n_.broken.a4, .bool n_.broken.a5, .bool n_.broken.a6, .bool n_.broken.a7]) rfl c0
 have ga : Mem ⟨w, h, noX⟩ ba (K43e1 b o p q) [⟨(K43c8 d n_ g f j l m), none⟩, ⟨[.slice none 0 0], some 60⟩, ⟨K43c2, some 74⟩, ⟨(K43c9 d n_ g f j l m), some 112⟩] [⟨none, 0, 0, 22, 1, [], 0⟩] ay := cj.nilRow 22 1
 have ed : Cells ba ([] : List (List Int)) [] := Cells.nil
 obtain ⟨ae, dz, H⟩ := bnd H
 refine wp_rangeJ (.func (.func 107) #[] #[.pointer (some ⟨bp, 0, none⟩)]) b9 (by rfl) rfl (fun _ _ => by kernel_rfl) fun aw dl => ?_
 obtain ⟨dx, f2, hf, gb⟩ := Mem.loopBegin ga (Marks.nil _) ⟨rfl, rfl⟩ aw
 have d4 : JOk (fun (s : (List (List Int)) × Some) (h' : Heap) (w' : World) => ∃ (Fj : Fr) (z : Option Addr) (ab : Nat) (ag : List Value), LoopFr w h Fj ((ay).heap.size + 1) aw ((ay).heap.size :: ([] : List Nat)) ∧ Mem Fj h' (K43e1 b o p q) (K43p10 d n_ g f j l m z s ab) [⟨z, s.1.length, ab, 22, 1, ag, 0⟩] w' ∧ Cells h' s.1 ag ∧ Heap.le ba h') := ⟨fun s h' w' hj => by obtain ⟨_, z, ab, ag, _, hm, au, _⟩ := hj; exact hm.has, fun s h' h'' w' w'' hj hb hle hn => by obtain ⟨Fj, z, ab, ag, hlf, hm, au, hle0⟩ := hj; exact ⟨Fj, z, ab, ag, hlf, hm.call hb hle hn, au.mono hle, Heap.le_trans hle0 hle⟩⟩
 refine ⟨_, slices_Values_int_int_1_it n d4 (fun (s : (List (List Int)) × Some) (x15 : Int) => ((((lane_night_morning_l1 n n_ x15 ([] : List Int) 0 s.2).bind fun u =>
    ((slices_SortFunc_int_int n u.1 (fun (y0 : Int) (y1 : Int) => lane_night_morning_1 n y0 y1 n_)).bind fun x42 =>
    ((rng 8 x15).bind fun x44 =>
    ((Some.setI u.2 x15 true).bind fun ah =>
    ((app s.1 ([x42] : List (List Int))).bind fun x48 =>
    some (x48, ah)))))) : Option ((List (List Int)) × Some)).bind fun s1 => some (s1, true))) ?_ (([] : List (List Int)), (Some.mk false false false false false false false false)) ⟨dx, none, 0, ([]), f2, gb, ed, Heap.le_refl _⟩ x14 bb dz, ?_⟩
 ·
  intro s x15 s' hc bg ct ei  b0
  obtain ⟨dy, z, ab, ag, cc, bh, au, bd⟩ := ei
  obtain ⟨hv, ai, b0⟩ := bnd b0
  cases b0
  replace ap := ap.mono bd
  replace aq := aq.mono bd
  replace av := av.mono bd
  replace bb := bb.mono bd
  replace bc := bc.mono bd
  replace br := br.mono bd
  replace bh : Mem dy bg (K43e1 b o p q) (K43p10 d n_ g f j l m z s ab) [⟨z, s.1.length, ab, 22, 1, ag, 0⟩] ct := bh
  refine yields1 dl (bh.ext cc.loop) ?_
  have fs : Kn 50 (K43e1 b o p q) ((tI 15 x15) :: (tP 4 3 0) :: K43m12) _ := (b9.kp.put (k := 15) (by decide) (.one (.c (.int .i64 x15))))
  refine ws_region_from (by kernel_rfl) (Rk 0 1 ((tI 5 x15) :: (tP 4 3 0) :: K43m12) fs bh fun ie ft => ?_)
  refine wf ?_
  refine ⟨bh.ext cc.loop, ?_⟩
  obtain ⟨ar, c9, hg, bm⟩ := Mem.loopStep bh cc { aw with state := .busy }
  replace bm : Mem ar bg (K43e1 b o p q) (K43p10 d n_ g f j l m z s ab) [⟨z, s.1.length, ab, 22, 1, ag, 0⟩] (World.putObj ct ((ay).heap.size + 1) (.loop { aw with state := .busy })) := bm
  refine ws_block (ws_seq (ws_region_from (by kernel_rfl) (Rk 0 1 ((tS 6 none 0 0) :: (tI 5 x15) :: (tP 4 3 0) :: K43m12) ft bm fun ig fu => ?_)))
  refine wf (ws_seq (ws_seq (ws_region_from (by kernel_rfl) (Rk 0 5 ((tI 20 0) :: (tI 19 ((n_.yard.buses.length : Nat) : Int)) :: (tS 6 none 0 0) :: (tI 5 x15) :: (tP 4 3 0) :: K43m12) fu bm fun ih fv => ?_))))
  refine wf ?_
  have gc : Mem ar bg (K43e1 b o p q) (K43p10 d n_ g f j l m z s ab) [⟨z, s.1.length, ab, 22, 1, ag, 0⟩, ⟨none, 0, 0, 3, 1, [], 0⟩] (World.putObj ct ((ay).heap.size + 1) (.loop { aw with state := .busy })) := bm.nilRow 3 1
  have ee : Cells bg ([] : List Int) [] := Cells.nil
  obtain ⟨u, cx, ai⟩ := bnd ai
  refine ws_mid' (fun a' w' => ∃ (x : Option Addr) (aa : Nat) (cq : List Value) (cm : Array Value) (bj : Heap), a' = ⟨cm, []⟩ ∧ Kn 50 (K43e1 b o p q) ((tS 6 x u.1.length aa) :: (tI 5 x15) :: K43m12) cm ∧ Mem ar bj (K43e1 b o p q) [⟨(K43c8 d n_ g f j l m), none⟩, ⟨[.slice z s.1.length ab], some 60⟩, ⟨(K43c6 u), some 74⟩, ⟨(K43c9 d n_ g f j l m), some 112⟩] [⟨z, s.1.length, ab, 22, 1, ag, 0⟩, ⟨x, u.1.length, aa, 3, 1, cq, 0⟩] w' ∧ Heap.le bg bj ∧ Cells bj u.1 cq) ?_ ?_
  ·
   refine ws_block ?_
   refine ws_loop_n (fun gu a' w' => ∃ (x_v10 : List Int) (x_v11 : Int) (x_v12 : Some) (ac : Option Addr) (ad : Nat) (ax : List Value) (cn : Array Value) (a9 : Heap), a' = ⟨cn, []⟩ ∧ Kn 50 (K43e1 b o p q) (K43m11 x_v11 n_ ac x_v10 ad x15) cn ∧ Mem ar a9 (K43e1 b o p q) [⟨(K43c8 d n_ g f j l m), none⟩, ⟨[.slice z s.1.length ab], some 60⟩, ⟨(K43c4 x_v12), some 74⟩, ⟨(K43c9 d n_ g f j l m), some 112⟩] [⟨z, s.1.length, ab, 22, 1, ag, 0⟩, ⟨ac, x_v10.length, ad, 3, 1, ax, 0⟩] w' ∧ Heap.le bg a9 ∧ Cells a9 x_v10 ax ∧ lane_night_morning_l1 gu n_ x15 x_v10 x_v11 x_v12 = some u) n ?_ ?_
   ·
    exact Exists.intro ([] : List Int) ⟨0, s.2, none, 0, ([]), _, _, rfl, fv.kp, gc, (Heap.le_refl _), ee, cx⟩
   ·
    rintro bi _ il ⟨x_v10, x_v11, x_v12, ac, ad, ax, cn, a9, rfl, ej, aj, al, bl, af⟩
    clear cx
    obtain _ | bi := bi
    ·
     rw [lane_night_morning_l1] at af; cases af
    rw [lane_night_morning_l1] at af
    replace ap := ap.mono al
    replace aq := aq.mono al
    replace av := av.mono al
    replace bb := bb.mono al
    replace bc := bc.mono al
    replace br := br.mono al
    replace au := au.mono al
    refine ws_seq (ws_region_from (by kernel_rfl) (Rk 0 1 ((tB 21 (decide (x_v11 < ((n_.yard.buses.length : Nat) : Int)))) :: (K43m11 x_v11 n_ ac x_v10 ad x15)) ej aj fun hw b7 => ?_))
    refine wf (ws_seq (ws_cond_sv (decide (x_v11 < ((n_.yard.buses.length : Nat) : Int))) b7 (by kernel_rfl) (fun b1 => ?_) (fun b1 => ?_)))
    ·
     rw [b1, cond_true] at af
     refine ws_skip (ws_seq (ws_block (ws_seq (ws_region_from (by kernel_rfl) (Rk 0 2 ((tI 7 x_v11) :: (K43m11 x_v11 n_ ac x_v10 ad x15)) b7 aj fun hx ek => ?_)))))
     refine wf (ws_seq ?_)
     obtain ⟨dm, ak, af⟩ := bnd af
     refine ws_mid' (fun a' w' => ∃ (co : Array Value) (be : Heap), a' = ⟨co, []⟩ ∧ Kn 50 (K43e1 b o p q) [(tI 7 x_v11), (tI 20 x_v11), (tI 19 ((n_.yard.buses.length : Nat) : Int)), (tS 6 ac x_v10.length ad), (tI 5 x15), (tP 4 3 0), (tP 3 2 0), (tP 2 1 0), (tP 1 0 0), (tB 32 dm)] co ∧ Mem ar be (K43e1 b o p q) [⟨(K43c8 d n_ g f j l m), none⟩, ⟨[.slice z s.1.length ab], some 60⟩, ⟨(K43c4 x_v12), some 74⟩, ⟨(K43c9 d n_ g f j l m), some 112⟩] [⟨z, s.1.length, ab, 22, 1, ag, 0⟩, ⟨ac, x_v10.length, ad, 3, 1, ax, 0⟩] w' ∧ Heap.le a9 be) ?_ ?_
     ·
      refine ws_region_from (by kernel_rfl) (Rk 0 1 ((tI 23 x_v11) :: (tI 7 x_v11) :: (K43m11 x_v11 n_ ac x_v10 ad x15)) ek aj fun hy c1 => ?_)
      obtain ⟨x24, ex24, ak⟩ := bnd ak
      obtain ⟨gf, gi⟩ := rng_some ex24
      refine R_one 1 (.one (.c (.ptr 2 (0 + (x_v11 : Int).toNat * 1)))) rfl (rfl) rfl (run_indexA (E := 4) c1 rfl (by kernel_rfl) (by kernel_rfl) (by rfl) (by rfl) gf gi) (c1.put (by decide) _) fun gw (c2 : Kn 50 (K43e1 b o p q) ((tP 24 2 (0 + (x_v11 : Int).toNat * 1)) :: (tI 23 x_v11) :: (tI 7 x_v11) :: (K43m11 x_v11 n_ ac x_v10 ad x15)) gw) => ?_
      obtain ⟨x25, ex25, ak⟩ := bnd ak
      obtain ⟨_, _, gq⟩ := idx_some ex25
      refine R_one 2 (.one (.c (.bool x25))) rfl (rfl) rfl (run_loadAt1 c2 aj.plOk rfl (by rfl) rfl (by kernel_rfl) (arr_get (fun (y : Bool) => ([.bool y] : List SC)) 1 (fun _ => rfl) [] [] x_v12.toL _ _ gq rfl rfl)) (c2.put (by decide) _) fun gx (em : Kn 50 (K43e1 b o p q) ((tB 25 x25) :: (tP 24 2 (0 + (x_v11 : Int).toNat * 1)) :: (tI 23 x_v11) :: (tI 7 x_v11) :: (K43m11 x_v11 n_ ac x_v10 ad x15)) gx) => ?_
      refine Rk 3 2 ((tB 27 (!x25)) :: (tI 7 x_v11) :: (K43m11 x_v11 n_ ac x_v10 ad x15)) em aj fun dn c3 => ?_
      rcases Bool.eq_false_or_eq_true ((!x25)) with bk | bk
      ·
       rw [bk, cond_true] at ak
       have en : Kn 50 (K43e1 b o p q) ((tB 27 true) :: (tI 7 x_v11) :: (K43m11 x_v11 n_ ac x_v10 ad x15)) dn := (c3.setB 27 true (by rfl) bk).kp
       refine Rk 5 3 ((tI 30 x15) :: (tI 29 x_v11) :: (28, .one (.c (.func (.func 64) #[.agg #[.slice d n_.yard.room.length g, .slice f n_.yard.buses.length j, .int .i64 n_.yard.broken, .slice l n_.lane.length m, .int .i64 n_.tm.a0, .int .i64 n_.tm.a1, .int .i64 n_.tm.a2, .int .i64 n_.tm.a3, .int .i64 n_.tm.a4, .int .i64 n_.tm.a5, .int .i64 n_.tm.a6, .int .i64 n_.tm.a7, .bool n_.broken.a0, .bool n_.broken.a1, .bool n_.broken.a2, .bool n_.broken.a3, .bool n_.broken.a4, .bool n_.broken.a5, .bool n_.broken.a6, .bool n_.broken.a7]] #[]))) :: (tB 27 true) :: (tI 7 x_v11) :: (K43m11 x_v11 n_ ac x_v10 ad x15)) en aj fun hz c4 => ?_
       obtain ⟨x31, ex31, ak⟩ := bnd ak
       refine wpFrom_loud _ rfl (wantedS_sound c4 (by kernel_rfl)) fun K hK => ?_
       refine wp_callV (.func (.func 64) #[.agg #[.slice d n_.yard.room.length g, .slice f n_.yard.buses.length j, .int .i64 n_.yard.broken, .slice l n_.lane.length m, .int .i64 n_.tm.a0, .int .i64 n_.tm.a1, .int .i64 n_.tm.a2, .int .i64 n_.tm.a3, .int .i64 n_.tm.a4, .int .i64 n_.tm.a5, .int .i64 n_.tm.a6, .int .i64 n_.tm.a7, .bool n_.broken.a0, .bool n_.broken.a1, .bool n_.broken.a2, .bool n_.broken.a3, .bool n_.broken.a4, .bool n_.broken.a5, .bool n_.broken.a6, .bool n_.broken.a7]] #[]) [.c (.int .i64 x_v11), .c (.int .i64 x15)] _ c4 aj rfl rfl (by decide) (by rfl) (by rfl) rfl ((show Fn4 a9 (.func (.func 64) #[.agg #[.slice d n_.yard.room.length g, .slice f n_.yard.buses.length j, .int .i64 n_.yard.broken, .slice l n_.lane.length m, .int .i64 n_.tm.a0, .int .i64 n_.tm.a1, .int .i64 n_.tm.a2, .int .i64 n_.tm.a3, .int .i64 n_.tm.a4, .int .i64 n_.tm.a5, .int .i64 n_.tm.a6, .int .i64 n_.tm.a7, .bool n_.broken.a0, .bool n_.broken.a1, .bool n_.broken.a2, .bool n_.broken.a3, .bool n_.broken.a4, .bool n_.broken.a5, .bool n_.broken.a6, .bool n_.broken.a7]] #[]) (fun (y0 : Int) (y1 : Int) => lane_night_before bi n_ y0 y1) from fun h2 w2 hle hh y0 y1 r H => ⟨64, _, _, rfl, fun _ _ => by kernel_rfl, lane_night_before_ok bi hh n_ (Rep.mono hle ((rep_pair (rep_pair (rep_slice ap) (rep_pair (rep_slice aq) rep_int)) (rep_pair (rep_slice av) (rep_pair (rep_pair rep_int (rep_pair rep_int (rep_pair rep_int (rep_pair rep_int (rep_pair rep_int (rep_pair rep_int (rep_pair rep_int rep_int))))))) (rep_pair rep_bool (rep_pair rep_bool (rep_pair rep_bool (rep_pair rep_bool (rep_pair rep_bool (rep_pair rep_bool (rep_pair rep_bool rep_bool)))))))))) : rep a9 n_ _)) y0 y1 H⟩) _ _ (Heap.le_refl _) aj.has x_v11 x15 _ ex31) fun ii hl io d5 fz da => ?_
       obtain rfl := d5
       refine ⟨.one (.c (.bool x31)), rfl, fun gy (eo : Kn 50 (K43e1 b o p q) ((tB 31 x31) :: (tI 30 x15) :: (tI 29 x_v11) :: (28, .one (.c (.func (.func 64) #[.agg #[.slice d n_.yard.room.length g, .slice f n_.yard.buses.length j, .int .i64 n_.yard.broken, .slice l n_.lane.length m, .int .i64 n_.tm.a0, .int .i64 n_.tm.a1, .int .i64 n_.tm.a2, .int .i64 n_.tm.a3, .int .i64 n_.tm.a4, .int .i64 n_.tm.a5, .int .i64 n_.tm.a6, .int .i64 n_.tm.a7, .bool n_.broken.a0, .bool n_.broken.a1, .bool n_.broken.a2, .bool n_.broken.a3, .bool n_.broken.a4, .bool n_.broken.a5, .bool n_.broken.a6, .bool n_.broken.a7]] #[]))) :: (tB 27 true) :: (tI 7 x_v11) :: (K43m11 x_v11 n_ ac x_v10 ad x15)) gy) => hK _ _ ?_⟩
       refine Rk 9 1 ((tB 32 x31) :: (tI 7 x_v11) :: (K43m11 x_v11 n_ ac x_v10 ad x15)) eo da fun h0 ep => ?_
       refine wf ?_
       obtain rfl := Option.some.inj ak
       exact Exists.intro _ ⟨_, rfl, ep.kp, da, fz⟩
      ·
       rw [bk, cond_false] at ak
       have er : Kn 50 (K43e1 b o p q) ((tB 27 false) :: (tI 7 x_v11) :: (K43m11 x_v11 n_ ac x_v10 ad x15)) dn := (c3.setB 27 false (by rfl) bk).kp
       refine Rk 5 5 ((tB 32 false) :: (tI 7 x_v11) :: (K43m11 x_v11 n_ ac x_v10 ad x15)) er aj fun h1 es => ?_
       refine wf ?_
       obtain rfl := Option.some.inj ak
       exact Exists.intro _ ⟨_, rfl, es.kp, aj, (Heap.le_refl _)⟩
     ·
      rintro _ ip ⟨co, be, rfl, b8, bx, ca⟩
      replace bl := bl.mono ca
      refine ws_cond_sv (dm) b8 (by kernel_rfl) (fun b2 => ?_) (fun b2 => ?_)
      ·
       rw [cond_t b2] at af
       refine ws_seq (ws_region_from (by kernel_rfl) (Rk 0 2 ((tI 34 x_v11) :: (tS 33 ac x_v10.length ad) :: (tI 7 x_v11) :: (K43m13 x_v11 n_ x15)) b8 bx fun h3 et => ?_))
       refine wl fun K hK => ?_
       refine wS 3 1 [.int .i64 x_v11] et bx fun cv gz iq (eu : Kn 50 (K43e1 b o p q) ((tS 35 cv 1 1) :: (tI 34 x_v11) :: (tS 33 ac x_v10.length ad) :: (tI 7 x_v11) :: (K43m13 x_v11 n_ x15)) gz) db => ?_
       have b3 : Cells be ([x_v11] : List Int) ([.int .i64 x_v11] : List Value) := ⟨_, _, rfl, (rep_int : rep be (x_v11 : Int) _), rfl⟩
       refine hK _ _ ?_
       obtain ⟨x36, ex36, af⟩ := bnd af
       obtain ⟨ck, fw⟩ := app_some ex36
       refine wl fun K hK => ?_
       refine wp_append 1 8 1 _ (x36.length) _ ([.int .i64 x_v11] : List Value) eu db rfl rfl (by decide) rfl (by rfl) (by kernel_rfl) (by rfl) (by rfl) (Cells.len b3) (db.rowCell (i := 2) rfl) b3.one (by rw [ck]; simp <;> omega) (by rw [ck]; exact fw) (by decide) fun az a8 d2 g0 iu ef (ev : Kn 50 (K43e1 b o p q) ((tS 36 az x36.length a8) :: (tS 35 cv 1 1) :: (tI 34 x_v11) :: (tS 33 ac x_v10.length ad) :: (tI 7 x_v11) :: (K43m13 x_v11 n_ x15)) g0) cd => ?_
       have eb : Cells be x36 (ax ++ ([.int .i64 x_v11] : List Value)) := by rw [ck]; exact Cells.append bl b3
       obtain rfl : d2 = 0 := Nat.le_zero.1 ef
       refine hK _ _ ?_
       refine Rk 4 1 ((tS 6 az x36.length a8) :: (tI 7 x_v11) :: (K43m13 x_v11 n_ x15)) ev cd fun h4 ew => ?_
       refine wf (ws_region_from (by kernel_rfl) (Rk 0 1 ((tI 37 x_v11) :: (tS 6 az x36.length a8) :: (K43m13 x_v11 n_ x15)) ew cd fun h5 c5 => ?_))
       obtain ⟨x38, ex38, af⟩ := bnd af
       obtain ⟨gg, gj⟩ := rng_some ex38
       refine R_one 1 (.one (.c (.ptr 2 (0 + (x_v11 : Int).toNat * 1)))) rfl (rfl) rfl (run_indexA (E := 4) c5 rfl (by kernel_rfl) (by kernel_rfl) (by rfl) (by rfl) gg gj) (c5.put (by decide) _) fun dq (ey : Kn 50 (K43e1 b o p q) ((tP 38 2 (0 + (x_v11 : Int).toNat * 1)) :: (tI 37 x_v11) :: (tS 6 az x36.length a8) :: (K43m13 x_v11 n_ x15)) dq) => ?_
       obtain ⟨am, d0, af⟩ := bnd af
       obtain ⟨hr, ht, gr⟩ := Some.setI_some d0
       refine wl fun K hK => ?_
       refine wp_store 2 (0 + (x_v11 : Int).toNat * 1) (.c (.bool true)) [.bool am.a0, .bool am.a1, .bool am.a2, .bool am.a3, .bool am.a4, .bool am.a5, .bool am.a6, .bool am.a7] ey cd rfl rfl (by rfl) (by rfl) (by rfl) (by kernel_rfl) (by refine decide_eq_true ?_; show (0 + (x_v11 : Int).toNat * 1) + 1 ≤ 8; omega) (arr_set (fun (y : Bool) => ([.bool y] : List SC)) 1 (fun _ => rfl) [] [] x_v12.toL am.toL (x_v11 : Int).toNat true gr (show (x_v11 : Int).toNat < 8 by omega) rfl rfl rfl) fun iv ez dc => hK _ _ ?_
       have e0 : Kn 50 (K43e1 b o p q) ((tS 6 az x36.length a8) :: (K43m13 x_v11 n_ x15)) dq := ez.kp
       refine wf (ws_region_from (by kernel_rfl) (Rk 0 2 ((tI 20 (IntKind.i64.wrap (x_v11 + 1))) :: (tS 6 az x36.length a8) :: (tI 19 ((n_.yard.buses.length : Nat) : Int)) :: (tI 5 x15) :: (tP 4 3 0) :: K43m12) e0 dc fun h6 e1 => ?_))
       refine wf ?_
       exact Exists.intro bi ⟨Nat.lt_succ_self _, Exists.intro x36 ⟨(IntKind.i64.wrap (x_v11 + 1)), am, az, a8, (ax ++ ([.int .i64 x_v11] : List Value)), _, _, rfl, e1.kp, (dc.cutRw 2), (Heap.le_trans al ca), eb, af⟩⟩
      ·
       rw [cond_f b2] at af
       refine ws_skip (ws_region_from (by kernel_rfl) (Rk 0 2 ((tI 20 (IntKind.i64.wrap (x_v11 + 1))) :: (tI 19 ((n_.yard.buses.length : Nat) : Int)) :: (tS 6 ac x_v10.length ad) :: (tI 5 x15) :: (tP 4 3 0) :: K43m12) b8 bx fun h7 e2 => ?_))
       refine wf ?_
       exact Exists.intro bi ⟨Nat.lt_succ_self _, Exists.intro x_v10 ⟨(IntKind.i64.wrap (x_v11 + 1)), x_v12, ac, ad, ax, _, _, rfl, e2.kp, bx, (Heap.le_trans al ca), bl, af⟩⟩
    ·
     rw [b1, cond_false] at af
     refine ws_exit ?_
     obtain rfl := Option.some.inj af
     exact Exists.intro ac ⟨ad, ax, _, _, rfl, b7.kp, aj, al, bl⟩
  ·
   rintro _ iw ⟨x, aa, cq, cm, bj, rfl, e3, dd, bt, ea⟩
   replace bc := bc.mono bt
   refine ws_seq (ws_region_from (by kernel_rfl) (Rk 0 1 ((tS 40 x u.1.length aa) :: (tS 6 x u.1.length aa) :: (tI 5 x15) :: K43m12) e3 dd fun h8 e5 => ?_))
   refine R_func 1 #[] #[.pointer (some ⟨b, 0, none⟩)] e5 rfl rfl (rfl) rfl (by decide) (by rfl) (by rfl) (by rfl) (by rfl) fun g1 (e6 : Kn 50 (K43e1 b o p q) ((41, .one (.c (.func (.func 66) #[] #[.pointer (some ⟨b, 0, none⟩)]))) :: (tS 40 x u.1.length aa) :: (tS 6 x u.1.length aa) :: (tI 5 x15) :: K43m12) g1) => ?_
   obtain ⟨x42, ex42, ai⟩ := bnd ai
   obtain ⟨ha, hi, fx, gn⟩ := dd.lend0 [] [1] (by kernel_rfl) (by kernel_rfl) (by kernel_rfl) (by kernel_rfl)
   refine wl fun K hK => ?_
   refine wp_callM [.c (.slice x u.1.length aa), .c (.func (.func 66) #[] #[.pointer (some ⟨b, 0, none⟩)])] _ e6 rfl rfl (by decide) (by rfl) rfl (fun _ _ => by kernel_rfl) (slices_SortFunc_int_int_ok n u.1 ea (fun (y0 : Int) (y1 : Int) => lane_night_morning_1 n y0 y1 n_) (show Fn3 bj (.func (.func 66) #[] #[.pointer (some ⟨b, 0, none⟩)]) (fun (y0 : Int) (y1 : Int) => lane_night_morning_1 n y0 y1 n_) from fun h2 w2 hle hh y0 y1 r H => ⟨66, _, _, rfl, fun _ _ => by kernel_rfl, lane_night_morning_1_ok n hh y0 y1 n_ (bc.mono hle) H⟩) fx ex42) fun ij dv d7 => ?_
   obtain ⟨cy, bn, bu, rfl, gd, b4, f5⟩ := d7
   have ce := gn _ _ _ [⟨x, u.1.length, aa, 3, 1, bn, 0⟩] bu rfl (Nat.le_of_ble_eq_true rfl) (by kernel_rfl) f5
   replace ce : Mem ar cy (K43e1 b o p q) [⟨(K43c8 d n_ g f j l m), none⟩, ⟨[.slice z s.1.length ab], some 60⟩, ⟨(K43c6 u), some 74⟩, ⟨(K43c9 d n_ g f j l m), some 112⟩] [⟨z, s.1.length, ab, 22, 1, ag, 0⟩, ⟨x, u.1.length, aa, 3, 1, bn, 0⟩] dv := ce
   refine ⟨.tup [], rfl, fun cp (e7 : Kn 50 (K43e1 b o p q) ((42, .tup []) :: (41, .one (.c (.func (.func 66) #[] #[.pointer (some ⟨b, 0, none⟩)]))) :: (tS 40 x u.1.length aa) :: (tS 6 x u.1.length aa) :: (tI 5 x15) :: K43m12) cp) => hK _ _ ?_⟩
   have dk := gd.symm
   have e8 : Kn 50 [(b, 0), (o, 0), (p, 0), (q, 0)] [(42, .tup []), (41, .one (.c (.func (.func 66) #[] #[.pointer (some ⟨b, 0, none⟩)]))), (40, .one (.c (.slice x x42.length aa))), (6, .one (.c (.slice x x42.length aa))), (5, .one (.c (.int .i64 x15))), (3, .one (.c (.ptr 2 0))), (2, .one (.c (.ptr 1 0))), (1, .one (.c (.ptr 0 0)))] cp := by rw [← dk]; exact e7
   have de : Mem ar cy [(b, 0), (o, 0), (p, 0), (q, 0)] [⟨[.slice d n_.yard.room.length g, .slice f n_.yard.buses.length j, .int .i64 n_.yard.broken, .slice l n_.lane.length m, .int .i64 n_.tm.a0, .int .i64 n_.tm.a1, .int .i64 n_.tm.a2, .int .i64 n_.tm.a3, .int .i64 n_.tm.a4, .int .i64 n_.tm.a5, .int .i64 n_.tm.a6, .int .i64 n_.tm.a7, .bool n_.broken.a0, .bool n_.broken.a1, .bool n_.broken.a2, .bool n_.broken.a3, .bool n_.broken.a4, .bool n_.broken.a5, .bool n_.broken.a6, .bool n_.broken.a7], none⟩, ⟨[.slice z s.1.length ab], some 60⟩, ⟨[.bool u.2.a0, .bool u.2.a1, .bool u.2.a2, .bool u.2.a3, .bool u.2.a4, .bool u.2.a5, .bool u.2.a6, .bool u.2.a7], some 74⟩, ⟨[.func (.func 64) #[.agg #[.slice d n_.yard.room.length g, .slice f n_.yard.buses.length j, .int .i64 n_.yard.broken, .slice l n_.lane.length m, .int .i64 n_.tm.a0, .int .i64 n_.tm.a1, .int .i64 n_.tm.a2, .int .i64 n_.tm.a3, .int .i64 n_.tm.a4, .int .i64 n_.tm.a5, .int .i64 n_.tm.a6, .int .i64 n_.tm.a7, .bool n_.broken.a0, .bool n_.broken.a1, .bool n_.broken.a2, .bool n_.broken.a3, .bool n_.broken.a4, .bool n_.broken.a5, .bool n_.broken.a6, .bool n_.broken.a7]] #[]], some 112⟩] [⟨z, s.1.length, ab, 22, 1, ag, 0⟩, ⟨x, x42.length, aa, 3, 1, bn, 0⟩] dv := by rw [← dk]; exact ce
   have e9 : Kn 50 (K43e1 b o p q) [(tS 6 x x42.length aa), (tI 5 x15), (tP 3 2 0), (tP 2 1 0)] cp := e8.kp
   refine wf (ws_seq (ws_region_from (by kernel_rfl) (Rk 0 1 [(tI 43 x15), (tS 6 x x42.length aa), (tP 3 2 0), (tP 2 1 0)] e9 de fun h9 c6 => ?_)))
   obtain ⟨x44, ex44, ai⟩ := bnd ai
   obtain ⟨gh, gk⟩ := rng_some ex44
   refine R_one 1 (.one (.c (.ptr 2 (0 + (x15 : Int).toNat * 1)))) rfl (rfl) rfl (run_indexA (E := 4) c6 rfl (by kernel_rfl) (by kernel_rfl) (by rfl) (by rfl) gh gk) (c6.put (by decide) _) fun dr (fa : Kn 50 (K43e1 b o p q) [(tP 44 2 (0 + (x15 : Int).toNat * 1)), (tI 43 x15), (tS 6 x x42.length aa), (tP 3 2 0), (tP 2 1 0)] dr) => ?_
   obtain ⟨ah, d1, ai⟩ := bnd ai
   obtain ⟨hs, hu, gs⟩ := Some.setI_some d1
   refine wl fun K hK => ?_
   refine wp_store 2 (0 + (x15 : Int).toNat * 1) (.c (.bool true)) (K43c5 ah) fa de rfl rfl (by rfl) (by rfl) (by rfl) (by kernel_rfl) (by refine decide_eq_true ?_; show (0 + (x15 : Int).toNat * 1) + 1 ≤ 8; omega) (arr_set (fun (y : Bool) => ([.bool y] : List SC)) 1 (fun _ => rfl) [] [] u.2.toL ah.toL (x15 : Int).toNat true gs (show (x15 : Int).toNat < 8 by omega) rfl rfl rfl) fun g6 fb cf => hK _ _ ?_
   have fd : Kn 50 (K43e1 b o p q) [(tS 6 x x42.length aa), (tP 2 1 0)] dr := fb.kp
   refine wf (ws_region_from (by kernel_rfl) (Rk 0 2 [(tS 46 x x42.length aa), (tS 45 z s.1.length ab), (tP 2 1 0)] fd cf fun ia fe => ?_))
   obtain ⟨bf, bv, go, cg⟩ := cf.settle (i := 1) rfl
   replace au := au.mono (Heap.le_trans (Heap.le_trans bt bu) bv)
   replace b4 := b4.mono bv
   replace cg : Mem ar bf (K43e1 b o p q) [⟨(K43c8 d n_ g f j l m), none⟩, ⟨[.slice z s.1.length ab], some 60⟩, ⟨(K43c5 ah), some 74⟩, ⟨(K43c9 d n_ g f j l m), some 112⟩] [⟨z, s.1.length, ab, 22, 1, ag, 0⟩, ⟨x, x42.length, aa, 3, 1, bn, (bn : List Value).length⟩] g6 := cg
   have gl : RepS bf x aa x42 := ⟨_, b4, go, cf.rowCap (i := 1) rfl⟩
   refine wl fun K hK => ?_
   refine wS 22 1 [.slice x x42.length aa] fe cg fun cw g3 iy (ff : Kn 50 (K43e1 b o p q) [(tS 47 cw 1 1), (tS 46 x x42.length aa), (tS 45 z s.1.length ab), (tP 2 1 0)] g3) dg => ?_
   have b5 : Cells bf ([x42] : List (List Int)) ([.slice x x42.length aa] : List Value) := ⟨_, _, rfl, ((rep_slice gl) : rep bf (x42 : List Int) _), rfl⟩
   refine hK _ _ ?_
   obtain ⟨x48, ex48, ai⟩ := bnd ai
   obtain ⟨cl, fy⟩ := app_some ex48
   refine wl fun K hK => ?_
   refine wp_append 0 24 1 _ (x48.length) _ ([.slice x x42.length aa] : List Value) ff dg rfl rfl (by decide) rfl (by rfl) (by kernel_rfl) (by rfl) (by rfl) (Cells.len b5) (dg.rowCell (i := 2) rfl) b5.one (by rw [cl]; simp <;> omega) (by rw [cl]; exact fy) (by decide) fun bo bq d3 ds iz eg (fg : Kn 50 (K43e1 b o p q) [(tS 48 bo x48.length bq), (tS 47 cw 1 1), (tS 46 x x42.length aa), (tS 45 z s.1.length ab), (tP 2 1 0)] ds) f6 => ?_
   have ec : Cells bf x48 (ag ++ ([.slice x x42.length aa] : List Value)) := by rw [cl]; exact Cells.append au b5
   obtain rfl : d3 = 0 := Nat.le_zero.1 eg
   refine hK _ _ ?_
   refine wl fun K hK => ?_
   refine wst 1 0 (.c (.slice bo x48.length bq)) [.slice bo x48.length bq] fg f6 fun i0 fh dh => hK _ _ ?_
   have hp : Kn 50 (K43e1 b o p q) [] ds := fh.kp
   refine wf ?_
   obtain rfl := Option.some.inj ai
   refine ⟨dh.ext c9.loop, ?_⟩
   rw [dl.eq]
   obtain ⟨dw, f1, hd, f7⟩ := Mem.loopStep dh c9 aw
   exact ⟨rfl, bf, (Heap.le_trans bt (Heap.le_trans bu bv)), dw, bo, bq, (ag ++ ([.slice x x42.length aa] : List Value)), f1, ((f7).cutRw 1), ec, (Heap.le_trans bd (Heap.le_trans bt (Heap.le_trans bu bv)))⟩
 ·
  intro g7 d8
  obtain ⟨d9, _, eh⟩ := d8
  obtain ⟨g9, an, ao, cr, c7, di, b6, hq⟩ := eh
  refine ⟨di.ext c7.loop, ?_⟩
  obtain ⟨cu, c8, he, bz⟩ := Mem.loopStep di c7 { aw with state := .exhausted }
  replace bz : Mem cu d9 (K43e1 b o p q) [⟨(K43c8 d n_ g f j l m), none⟩, ⟨[.slice an ae.1.length ao], some 60⟩, ⟨[.bool ae.2.a0, .bool ae.2.a1, .bool ae.2.a2, .bool ae.2.a3, .bool ae.2.a4, .bool ae.2.a5, .bool ae.2.a6, .bool ae.2.a7], some 74⟩, ⟨(K43c9 d n_ g f j l m), some 112⟩] [⟨an, ae.1.length, ao, 22, 1, cr, 0⟩] (World.putObj g7 ((ay).heap.size + 1) (.loop { aw with state := .exhausted })) := bz
  refine wp_seq (wp_region_from (Rk 0 1 [(tS 49 an ae.1.length ao), (tP 2 1 0)] b9 bz fun g5 fk => ?_))
  refine wl fun K hK => ?_
  refine wst 1 0 (.c (.slice an ae.1.length ao)) [.slice an ae.1.length ao] fk bz fun g8 fl dj => hK _ _ ?_
  have fm : Kn 50 (K43e1 b o p q) [(tP 2 1 0)] g5 := fl.kp
  refine wf (wp_ret ?_)
  obtain ⟨cz, f0, gp, ch⟩ := dj.settle (i := 0) rfl
  replace b6 := b6.mono f0
  replace ch : Mem cu cz (K43e1 b o p q) [⟨(K43c8 d n_ g f j l m), none⟩, ⟨[.slice an ae.1.length ao], some 60⟩, ⟨[.bool ae.2.a0, .bool ae.2.a1, .bool ae.2.a2, .bool ae.2.a3, .bool ae.2.a4, .bool ae.2.a5, .bool ae.2.a6, .bool ae.2.a7], some 74⟩, ⟨(K43c9 d n_ g f j l m), some 112⟩] [⟨an, ae.1.length, ao, 22, 1, cr, (cr : List Value).length⟩] g8 := ch
  have gm : RepS cz an ao ae.1 := ⟨_, b6, gp, dj.rowCap (i := 0) rfl⟩
  obtain rfl := Option.some.inj H
  exact retMk_ok (bs := ((ay).heap.size :: ([] : List Nat))) (.one (.c (.slice an ae.1.length ao))) fm ch c8.marks c8.of (by kernel_rfl) ⟨_, _, rfl, gm⟩
abbrev K16c1 (m : Option Addr) (y : Yard) (q : Nat) (o : Option Addr) (s : Nat) : List SC := [.slice m y.room.length q, .slice o y.buses.length s, .int .i64 y.broken]
abbrev K16c2 (e : Option Addr) (x18 : Night × Int) (j : Nat) (f : Option Addr) (k : Nat) (g : Option Addr) (l : Nat) : List SC := [.slice e x18.1.yard.room.length j, .slice f x18.1.yard.buses.length k, .int .i64 x18.1.yard.broken, .slice g x18.1.lane.length l, .int .i64 x18.1.tm.a0, .int .i64 x18.1.tm.a1, .int .i64 x18.1.tm.a2, .int .i64 x18.1.tm.a3, .int .i64 x18.1.tm.a4, .int .i64 x18.1.tm.a5, .int .i64 x18.1.tm.a6, .int .i64 x18.1.tm.a7, .bool x18.1.broken.a0, .bool x18.1.broken.a1, .bool x18.1.broken.a2, .bool x18.1.broken.a3, .bool x18.1.broken.a4, .bool x18.1.broken.a5, .bool x18.1.broken.a6, .bool x18.1.broken.a7]
set_option maxRecDepth 100000 in
set_option maxHeartbeats 4000000 in
theorem lane_Shunts_ok (n : Nat) {h : Heap} {w : World} (hh : Has h w) (y : Yard) {cs_y : List Value} (hx_y : rep h y cs_y) (lanes : List Int) {a_lanes : Option Addr} {c_lanes : Nat} (hr_lanes : RepS h a_lanes c_lanes lanes) (order : List Int) {a_order : Option Addr} {c_order : Nat} (hr_order : RepS h a_order c_order order) (broken : List Int) {a_broken : Option Addr} {c_broken : Nat} (hr_broken : RepS h a_broken c_broken broken) {r : (List Int) × Int} (H : lane_Shunts n y lanes order broken = some r) :
  Calls Try.prog 16 #[.agg cs_y.toArray, .slice a_lanes lanes.length c_lanes, .slice a_order order.length c_order, .slice a_broken broken.length c_broken] w (Ret (fun h v => ∃ v0 v1, v = .tuple #[v0, v1] ∧ (∃ a c, v0 = .slice a r.1.length c ∧ RepS h a c r.1) ∧ (v1 = .int .i64 r.2)) h w) := by
 obtain ⟨_, _, rfl, ⟨m, q, rfl, ak⟩, ⟨_, _, rfl, ⟨o, s, rfl, al⟩, rfl⟩⟩ := hx_y
 refine enter 30 [.agg (K16c1 m y q o s), .c (.slice a_lanes lanes.length c_lanes), .c (.slice a_order order.length c_order), .c (.slice a_broken broken.length c_broken)] Try.func16 rfl rfl rfl rfl fun t hk => ?_
 have hm := Mem.begin h w hh
 unfold lane_Shunts at H
 refine wp_seq (wp_region_from (wl fun K hK => ?_))
 refine wb (.agg (K16c1 m y q o s)) hk hm fun p b7 cv (ba : Kn 30 [(p, 0)] [(tP 4 0 0), (tA 0 (K16c1 m y q o s)), (tS 1 a_lanes lanes.length c_lanes), (tS 2 a_order order.length c_order), (tS 3 a_broken broken.length c_broken)] b7) ae => hK _ _ ?_
 refine Rk 1 2 [(tP 4 0 0), (tS 1 a_lanes lanes.length c_lanes), (tS 2 a_order order.length c_order), (tS 3 a_broken broken.length c_broken)] ba ae fun ce bb => ?_
 refine wf (wp_seq (wp_region_from (Rk 0 4 [(tS 17 a_broken broken.length c_broken), (tS 16 a_order order.length c_order), (tS 15 a_lanes lanes.length c_lanes), (tA 14 (K16c1 m y q o s))] bb ae fun cf bc => ?_)))
 obtain ⟨x18, ex18, H⟩ := bnd H
 refine wl fun K hK => ?_
 refine wc [.agg (K16c1 m y q o s), .c (.slice a_lanes lanes.length c_lanes), .c (.slice a_order order.length c_order), .c (.slice a_broken broken.length c_broken)] bc ae (lane_Yard_night_ok n ae.has y ((rep_pair (rep_slice ak) (rep_pair (rep_slice al) rep_int)) : rep h y _) lanes hr_lanes order hr_order broken hr_broken ex18) fun co a8 cr ax ap aq => ?_
 replace ak := ak.mono ap
 replace al := al.mono ap
 obtain ⟨_, _, rfl, ⟨_, rfl, ⟨_, _, rfl, ⟨_, _, rfl, ⟨e, j, rfl, bw⟩, ⟨_, _, rfl, ⟨f, k, rfl, bx⟩, rfl⟩⟩, ⟨_, _, rfl, ⟨g, l, rfl, bz⟩, ⟨_, _, rfl, ⟨_, _, rfl, rfl, ⟨_, _, rfl, rfl, ⟨_, _, rfl, rfl, ⟨_, _, rfl, rfl, ⟨_, _, rfl, rfl, ⟨_, _, rfl, rfl, ⟨_, _, rfl, rfl, rfl⟩⟩⟩⟩⟩⟩⟩, ⟨_, _, rfl, rfl, ⟨_, _, rfl, rfl, ⟨_, _, rfl, rfl, ⟨_, _, rfl, rfl, ⟨_, _, rfl, rfl, ⟨_, _, rfl, rfl, ⟨_, _, rfl, rfl, rfl⟩⟩⟩⟩⟩⟩⟩⟩⟩⟩⟩, rfl⟩ := ax
 refine ⟨.tup [.agg (K16c2 e x18 j f k g l), .c (.int .i64 x18.2)], rfl, fun b3 (bd : Kn 30 [(p, 0)] [(18, .tup [.agg (K16c2 e x18 j f k g l), .c (.int .i64 x18.2)]), (tS 17 a_broken broken.length c_broken), (tS 16 a_order order.length c_order), (tS 15 a_lanes lanes.length c_lanes), (tA 14 (K16c1 m y q o s))] b3) => hK _ _ ?_⟩
 refine Rk 5 3 [(tI 20 x18.2), (tA 19 (K16c2 e x18 j f k g l))] bd aq fun cg be => ?_
 refine wl fun K hK => ?_
 refine wa [.slice none 0 0, .slice none 0 0, .int .i64 0, .slice none 0 0, .int .i64 0, .int .i64 0, .int .i64 0, .int .i64 0, .int .i64 0, .int .i64 0, .int .i64 0, .int .i64 0, .bool false, .bool false, .bool false, .bool false, .bool false, .bool false, .bool false, .bool false] be aq fun u b4 cs (bf : Kn 30 [(p, 0), (u, 0)] [(tP 10 1 0), (tI 20 x18.2), (tA 19 (K16c2 e x18 j f k g l))] b4) bu => hK _ _ ?_
 refine wl fun K hK => ?_
 refine wst 1 0 (.agg (K16c2 e x18 j f k g l)) (K16c2 e x18 j f k g l) bf bu fun ct bg z => hK _ _ ?_
 refine Rk 10 1 [(tI 11 x18.2), (tP 10 1 0)] bg z fun ch bh => ?_
 refine wf (wp_seq (wp_seq (wp_region_from (Rk 0 2 [(tB 22 (x18.2 != 0)), (tI 11 x18.2), (tP 10 1 0)] bh z fun ci ah => ?_))))
 refine wf (wC ((x18.2 != 0)) ah (fun af => ?_) (fun af => ?_))
 ·
  rw [af, cond_true] at H
  refine wp_seq (wp_region_from (Rk 0 3 [(tI 9 x18.2), (tS 8 none 0 0)] ah z fun cj bi => ?_))
  refine wf (wp_ret ?_)
  obtain rfl := Option.some.inj H
  exact rt (.tup [.c (.slice none 0 0), .c (.int .i64 x18.2)]) bi z ⟨_, _, rfl, ⟨_, _, rfl, RepS.nil⟩, rfl⟩
 ·
  rw [af, cond_false] at H
  refine wp_skip (wp_seq (wp_region_from (Rk 0 1 [(tA 24 (K16c2 e x18 j f k g l))] ah z fun ck bj => ?_)))
  obtain ⟨x25, ex25, H⟩ := bnd H
  refine wl fun K hK => ?_
  refine wc [.agg (K16c2 e x18 j f k g l)] bj z (lane_night_morning_ok n z.has x18.1 ((rep_pair (rep_pair (rep_slice bw) (rep_pair (rep_slice bx) rep_int)) (rep_pair (rep_slice bz) (rep_pair (rep_pair rep_int (rep_pair rep_int (rep_pair rep_int (rep_pair rep_int (rep_pair rep_int (rep_pair rep_int (rep_pair rep_int rep_int))))))) (rep_pair rep_bool (rep_pair rep_bool (rep_pair rep_bool (rep_pair rep_bool (rep_pair rep_bool (rep_pair rep_bool (rep_pair rep_bool rep_bool)))))))))) : rep a8 x18.1 _) ex25) fun cp ca cu ay cb ar => ?_
  obtain ⟨ab, ac, rfl, b0⟩ := ay
  refine ⟨.one (.c (.slice ab x25.length ac)), rfl, fun b5 (bk : Kn 30 [(p, 0), (u, 0)] [(tS 25 ab x25.length ac), (tA 24 (K16c2 e x18 j f k g l))] b5) => hK _ _ ?_⟩
  obtain ⟨x26, ex26, H⟩ := bnd H
  refine wl fun K hK => ?_
  refine wp_callO [.c (.slice ab x25.length ac)] _ bk ar rfl rfl (by decide) (by rfl) rfl (fun _ _ => by kernel_rfl) (slices_Concat_int_int_own n ar.has x25 b0 ex26) fun cq ad b9 cd az cc aa => ?_
  obtain ⟨b, d, b8, rfl, rfl, a9⟩ := az
  replace aa : Mem ⟨w, h, noX⟩ ad [(p, 0), (u, 0)] [⟨(K16c1 m y q o s), some 33⟩, ⟨(K16c2 e x18 j f k g l), some 76⟩] [⟨b, x26.length, d, 3, 1, b8, 0⟩] b9 := aa
  refine ⟨.one (.c (.slice b x26.length d)), rfl, fun b6 (bl : Kn 30 [(p, 0), (u, 0)] [(tS 26 b x26.length d), (tS 25 ab x25.length ac), (tA 24 (K16c2 e x18 j f k g l))] b6) => hK _ _ ?_⟩
  refine Rk 3 1 [(tS 12 b x26.length d)] bl aa fun cl bm => ?_
  refine wf (wp_seq (wp_region_from (Rk 0 1 [(tS 27 b x26.length d), (tS 12 b x26.length d)] bm aa fun cm bn => ?_)))
  obtain ⟨x, aw, H⟩ := bnd H
  obtain ⟨bs, av⟩ := sortO_some aw
  refine wl fun K hK => ?_
  refine wp_sort Try.sorts 0 bn aa rfl rfl (by decide) (by rfl) (fun _ _ => by kernel_rfl) rfl rfl rfl rfl a9 bs fun am an (bo : Kn 30 [(p, 0), (u, 0)] [(28, .tup []), (tS 27 b x26.length d), (tS 12 b x26.length d)] am) (bv : Mem ⟨w, h, noX⟩ ad [(p, 0), (u, 0)] [⟨(K16c1 m y q o s), some 33⟩, ⟨(K16c2 e x18 j f k g l), some 76⟩] [⟨b, x26.length, d, 3, 1, (List.map (Value.int .i64) (sortI x26)), 0⟩] an) => ?_
  have ag : Cells ad x (List.map (Value.int .i64) (sortI x26)) := by rw [av]; exact cells_ofInts _ _
  have au : x26.length = x.length := by rw [av, sortI_len]
  have bp : Kn 30 [(p, 0), (u, 0)] [(28, .tup []), (27, .one (.c (.slice b x.length d))), (12, .one (.c (.slice b x.length d)))] am := by rw [← au]; exact bo
  have ai : Mem ⟨w, h, noX⟩ ad [(p, 0), (u, 0)] [⟨[.slice m y.room.length q, .slice o y.buses.length s, .int .i64 y.broken], some 33⟩, ⟨[.slice e x18.1.yard.room.length j, .slice f x18.1.yard.buses.length k, .int .i64 x18.1.yard.broken, .slice g x18.1.lane.length l, .int .i64 x18.1.tm.a0, .int .i64 x18.1.tm.a1, .int .i64 x18.1.tm.a2, .int .i64 x18.1.tm.a3, .int .i64 x18.1.tm.a4, .int .i64 x18.1.tm.a5, .int .i64 x18.1.tm.a6, .int .i64 x18.1.tm.a7, .bool x18.1.broken.a0, .bool x18.1.broken.a1, .bool x18.1.broken.a2, .bool x18.1.broken.a3, .bool x18.1.broken.a4, .bool x18.1.broken.a5, .bool x18.1.broken.a6, .bool x18.1.broken.a7], some 76⟩] [⟨b, x.length, d, 3, 1, (List.map (Value.int .i64) (sortI x26)), 0⟩] an := by rw [← au]; exact bv
  refine hK _ _ ?_
  have bq : Kn 30 [(p, 0), (u, 0)] [(tS 12 b x.length d)] am := bp.kp
  refine wf (wp_seq (wp_region_from (Rk 0 3 [(tI 9 0), (tS 8 b x.length d)] bq ai fun cn br => ?_)))
  refine wf (wp_ret ?_)
  obtain ⟨ao, bt, b2, aj⟩ := ai.settle (i := 0) rfl
  replace ag := ag.mono bt
  replace aj : Mem ⟨w, h, noX⟩ ao [(p, 0), (u, 0)] [⟨(K16c1 m y q o s), some 33⟩, ⟨(K16c2 e x18 j f k g l), some 76⟩] [⟨b, x.length, d, 3, 1, (List.map (Value.int .i64) (sortI x26)), ((List.map (Value.int .i64) (sortI x26)) : List Value).length⟩] an := aj
  have b1 : RepS ao b d x := ⟨_, ag, b2, ai.rowCap (i := 0) rfl⟩
  obtain rfl := Option.some.inj H
  exact rt (.tup [.c (.slice b x.length d), .c (.int .i64 0)]) br aj ⟨_, _, rfl, ⟨_, _, rfl, b1⟩, rfl⟩
abbrev K33c1 (j : Option Addr) (y : Yard) (l : Nat) (k : Option Addr) (m : Nat) : List SC := [.slice j y.room.length l, .slice k y.buses.length m, .int .i64 y.broken]
abbrev K33c2 (b : Option Addr) (x17 : Night × Int) (f : Nat) (d : Option Addr) (g : Nat) (e : Option Addr) (i : Nat) : List SC := [.slice b x17.1.yard.room.length f, .slice d x17.1.yard.buses.length g, .int .i64 x17.1.yard.broken, .slice e x17.1.lane.length i, .int .i64 x17.1.tm.a0, .int .i64 x17.1.tm.a1, .int .i64 x17.1.tm.a2, .int .i64 x17.1.tm.a3, .int .i64 x17.1.tm.a4, .int .i64 x17.1.tm.a5, .int .i64 x17.1.tm.a6, .int .i64 x17.1.tm.a7, .bool x17.1.broken.a0, .bool x17.1.broken.a1, .bool x17.1.broken.a2, .bool x17.1.broken.a3, .bool x17.1.broken.a4, .bool x17.1.broken.a5, .bool x17.1.broken.a6, .bool x17.1.broken.a7]
set_option maxRecDepth 100000 in
set_option maxHeartbeats 4000000 in
theorem lane_Morning_ok (n : Nat) {h : Heap} {w : World} (hh : Has h w) (y : Yard) {cs_y : List Value} (hx_y : rep h y cs_y) (lanes : List Int) {a_lanes : Option Addr} {c_lanes : Nat} (hr_lanes : RepS h a_lanes c_lanes lanes) (order : List Int) {a_order : Option Addr} {c_order : Nat} (hr_order : RepS h a_order c_order order) (broken : List Int) {a_broken : Option Addr} {c_broken : Nat} (hr_broken : RepS h a_broken c_broken broken) {r : (List (List Int)) × Int} (H : lane_Morning n y lanes order broken = some r) :
  Calls Try.prog 33 #[.agg cs_y.toArray, .slice a_lanes lanes.length c_lanes, .slice a_order order.length c_order, .slice a_broken broken.length c_broken] w (Ret (fun h v => ∃ v0 v1, v = .tuple #[v0, v1] ∧ (∃ a c, v0 = .slice a r.1.length c ∧ RepS h a c r.1) ∧ (v1 = .int .i64 r.2)) h w) := by
 obtain ⟨_, _, rfl, ⟨j, l, rfl, aa⟩, ⟨_, _, rfl, ⟨k, m, rfl, ab⟩, rfl⟩⟩ := hx_y
 refine enter 25 [.agg (K33c1 j y l k m), .c (.slice a_lanes lanes.length c_lanes), .c (.slice a_order order.length c_order), .c (.slice a_broken broken.length c_broken)] Try.func33 rfl rfl rfl rfl fun t hk => ?_
 have hm := Mem.begin h w hh
 unfold lane_Morning at H
 refine wp_seq (wp_region_from (wl fun K hK => ?_))
 refine wb (.agg (K33c1 j y l k m)) hk hm fun q bd bu (aj : Kn 25 [(q, 0)] [(tP 4 0 0), (tA 0 (K33c1 j y l k m)), (tS 1 a_lanes lanes.length c_lanes), (tS 2 a_order order.length c_order), (tS 3 a_broken broken.length c_broken)] bd) u => hK _ _ ?_
 refine Rk 1 2 [(tP 4 0 0), (tS 1 a_lanes lanes.length c_lanes), (tS 2 a_order order.length c_order), (tS 3 a_broken broken.length c_broken)] aj u fun bg ak => ?_
 refine wf (wp_seq (wp_region_from (Rk 0 4 [(tS 16 a_broken broken.length c_broken), (tS 15 a_order order.length c_order), (tS 14 a_lanes lanes.length c_lanes), (tA 13 (K33c1 j y l k m))] ak u fun bh al => ?_)))
 obtain ⟨x17, ex17, H⟩ := bnd H
 refine wl fun K hK => ?_
 refine wc [.agg (K33c1 j y l k m), .c (.slice a_lanes lanes.length c_lanes), .c (.slice a_order order.length c_order), .c (.slice a_broken broken.length c_broken)] al u (lane_Yard_night_ok n u.has y ((rep_pair (rep_slice aa) (rep_pair (rep_slice ab) rep_int)) : rep h y _) lanes hr_lanes order hr_order broken hr_broken ex17) fun bo ai bq ag ad ae => ?_
 replace aa := aa.mono ad
 replace ab := ab.mono ad
 obtain ⟨_, _, rfl, ⟨_, rfl, ⟨_, _, rfl, ⟨_, _, rfl, ⟨b, f, rfl, ay⟩, ⟨_, _, rfl, ⟨d, g, rfl, az⟩, rfl⟩⟩, ⟨_, _, rfl, ⟨e, i, rfl, a8⟩, ⟨_, _, rfl, ⟨_, _, rfl, rfl, ⟨_, _, rfl, rfl, ⟨_, _, rfl, rfl, ⟨_, _, rfl, rfl, ⟨_, _, rfl, rfl, ⟨_, _, rfl, rfl, ⟨_, _, rfl, rfl, rfl⟩⟩⟩⟩⟩⟩⟩, ⟨_, _, rfl, rfl, ⟨_, _, rfl, rfl, ⟨_, _, rfl, rfl, ⟨_, _, rfl, rfl, ⟨_, _, rfl, rfl, ⟨_, _, rfl, rfl, ⟨_, _, rfl, rfl, rfl⟩⟩⟩⟩⟩⟩⟩⟩⟩⟩⟩, rfl⟩ := ag
 refine ⟨.tup [.agg (K33c2 b x17 f d g e i), .c (.int .i64 x17.2)], rfl, fun ba (am : Kn 25 [(q, 0)] [(17, .tup [.agg (K33c2 b x17 f d g e i), .c (.int .i64 x17.2)]), (tS 16 a_broken broken.length c_broken), (tS 15 a_order order.length c_order), (tS 14 a_lanes lanes.length c_lanes), (tA 13 (K33c1 j y l k m))] ba) => hK _ _ ?_⟩
 refine Rk 5 3 [(tI 19 x17.2), (tA 18 (K33c2 b x17 f d g e i))] am ae fun bi an => ?_
 refine wl fun K hK => ?_
 refine wa [.slice none 0 0, .slice none 0 0, .int .i64 0, .slice none 0 0, .int .i64 0, .int .i64 0, .int .i64 0, .int .i64 0, .int .i64 0, .int .i64 0, .int .i64 0, .int .i64 0, .bool false, .bool false, .bool false, .bool false, .bool false, .bool false, .bool false, .bool false] an ae fun ac bb br (ao : Kn 25 [(q, 0), (ac, 0)] [(tP 10 1 0), (tI 19 x17.2), (tA 18 (K33c2 b x17 f d g e i))] bb) ax => hK _ _ ?_
 refine wl fun K hK => ?_
 refine wst 1 0 (.agg (K33c2 b x17 f d g e i)) (K33c2 b x17 f d g e i) ao ax fun bs ap o => hK _ _ ?_
 refine Rk 10 1 [(tI 11 x17.2), (tP 10 1 0)] ap o fun bj aq => ?_
 refine wf (wp_seq (wp_seq (wp_region_from (Rk 0 2 [(tB 21 (x17.2 != 0)), (tI 11 x17.2), (tP 10 1 0)] aq o fun bk z => ?_))))
 refine wf (wC ((x17.2 != 0)) z (fun x => ?_) (fun x => ?_))
 ·
  rw [x, cond_true] at H
  refine wp_seq (wp_region_from (Rk 0 3 [(tI 9 x17.2), (tS 8 none 0 0)] z o fun bl ar => ?_))
  refine wf (wp_ret ?_)
  obtain rfl := Option.some.inj H
  exact rt (.tup [.c (.slice none 0 0), .c (.int .i64 x17.2)]) ar o ⟨_, _, rfl, ⟨_, _, rfl, RepS.nil⟩, rfl⟩
 ·
  rw [x, cond_false] at H
  refine wp_skip (wp_seq (wp_region_from (Rk 0 1 [(tA 23 (K33c2 b x17 f d g e i))] z o fun bm au => ?_)))
  obtain ⟨x24, ex24, H⟩ := bnd H
  refine wl fun K hK => ?_
  refine wc [.agg (K33c2 b x17 f d g e i)] au o (lane_night_morning_ok n o.has x17.1 ((rep_pair (rep_pair (rep_slice ay) (rep_pair (rep_slice az) rep_int)) (rep_pair (rep_slice a8) (rep_pair (rep_pair rep_int (rep_pair rep_int (rep_pair rep_int (rep_pair rep_int (rep_pair rep_int (rep_pair rep_int (rep_pair rep_int rep_int))))))) (rep_pair rep_bool (rep_pair rep_bool (rep_pair rep_bool (rep_pair rep_bool (rep_pair rep_bool (rep_pair rep_bool (rep_pair rep_bool rep_bool)))))))))) : rep ai x17.1 _) ex24) fun bp be bt ah bf af => ?_
  obtain ⟨p, s, rfl, a9⟩ := ah
  refine ⟨.one (.c (.slice p x24.length s)), rfl, fun bc (av : Kn 25 [(q, 0), (ac, 0)] [(tS 24 p x24.length s), (tA 23 (K33c2 b x17 f d g e i))] bc) => hK _ _ ?_⟩
  refine Rk 2 2 [(tI 9 0), (tS 8 p x24.length s)] av af fun bn aw => ?_
  refine wf (wp_ret ?_)
  obtain rfl := Option.some.inj H
  exact rt (.tup [.c (.slice p x24.length s), .c (.int .i64 0)]) aw af ⟨_, _, rfl, ⟨_, _, rfl, a9⟩, rfl⟩
end Go.Proofs.Ythcbemnflgjadaa
