/- Each call computes its plain function. -/
import Derived.Test.YthcbemnflgjadaaProg
import Derived.Test.YthcbemnflgjadaaNmP0
import Derived.Test.YthcbemnflgjadaaNmWA
import Derived.Test.YthcbemnflgjadaaNmWB
import Derived.Test.YthcbemnflgjadaaNmWE
set_option linter.all false
namespace Go.Proofs.Ythcbemnflgjadaa
open Go Go.RowKit
open Rep (rep)
open KRep (kv)
open VRep (rv)
theorem Key.KL : KL Try.prog 92 Key := by
  refine KL.struct 5 (by decide) (fun x => [.bool x.buses.a0, .bool x.buses.a1, .bool x.buses.a2, .bool x.buses.a3, .bool x.buses.a4, .bool x.buses.a5, .bool x.buses.a6, .bool x.buses.a7, .bool x.down.a0, .bool x.down.a1, .bool x.down.a2, .bool x.down.a3, .bool x.down.a4, .bool x.down.a5, .bool x.down.a6, .bool x.down.a7]) (fun _ => rfl) (by kernel_rfl) (fun _ => by kernel_rfl) (fun _ => by kernel_rfl) fun a b => ⟨(((a.buses.a0 == b.buses.a0) && ((a.buses.a1 == b.buses.a1) && ((a.buses.a2 == b.buses.a2) && ((a.buses.a3 == b.buses.a3) && ((a.buses.a4 == b.buses.a4) && ((a.buses.a5 == b.buses.a5) && ((a.buses.a6 == b.buses.a6) && ((a.buses.a7 == b.buses.a7) && true)))))))) && (((a.down.a0 == b.down.a0) && ((a.down.a1 == b.down.a1) && ((a.down.a2 == b.down.a2) && ((a.down.a3 == b.down.a3) && ((a.down.a4 == b.down.a4) && ((a.down.a5 == b.down.a5) && ((a.down.a6 == b.down.a6) && ((a.down.a7 == b.down.a7) && true)))))))) && true)), by kernel_rfl, ?_⟩
  rcases a with ⟨⟨a0, a1, a2, a3, a4, a5, a6, a7⟩, ⟨a8, a9, a10, a11, a12, a13, a14, a15⟩⟩
  rcases b with ⟨⟨b0, b1, b2, b3, b4, b5, b6, b7⟩, ⟨b8, b9, b10, b11, b12, b13, b14, b15⟩⟩
  simp [and_assoc]
abbrev K49c1 (u : Option Addr) (x31 : Column) (z : Nat) : List SC := [.slice u x31.buses.length z, .int .i64 x31.down]
abbrev K49c2 (ad : Option Addr) (y : Yard) (ag : Nat) (ae : Option Addr) (ah : Nat) : List SC := [.slice ad y.room.length ag, .slice ae y.buses.length ah, .int .i64 y.broken]
abbrev K49c3 (x22 : Some) : List SC := [.bool x22.a0, .bool x22.a1, .bool x22.a2, .bool x22.a3, .bool x22.a4, .bool x22.a5, .bool x22.a6, .bool x22.a7]
abbrev K49e4 (b_found b_many b_breaks b_y b_known p q : Nat) (x_v10 : Int) (s : Nat) : Env := [(b_found, 0), (b_many, 0), (b_breaks, 0), (b_y, 0), (b_known, 0), (p, q + (x_v10 : Int).toNat * 8), (s, 0)]
abbrev K49e5 (b_found b_many b_breaks b_y b_known p q : Nat) (x_v10 : Int) (s aa ab : Nat) (x_v20 : Int) (ac af : Nat) : Env := [(b_found, 0), (b_many, 0), (b_breaks, 0), (b_y, 0), (b_known, 0), (p, q + (x_v10 : Int).toNat * 8), (s, 0), (aa, ab + (x_v20 : Int).toNat * 2), (ac, 0), (af, 0)]
abbrev K49c6 (x64 : Found) : List SC := [.int .i64 x64.many, .int .i64 x64.tm.a0, .int .i64 x64.tm.a1, .int .i64 x64.tm.a2, .int .i64 x64.tm.a3, .int .i64 x64.tm.a4, .int .i64 x64.tm.a5, .int .i64 x64.tm.a6, .int .i64 x64.tm.a7]
abbrev K49e7 (b_found b_many b_breaks b_y b_known p q : Nat) (x_v10 : Int) (s aa ab : Nat) (x_v20 : Int) (ac af ay az : Nat) (x_v30 : Int) : Env := [(b_found, 0), (b_many, 0), (b_breaks, 0), (b_y, 0), (b_known, 0), (p, q + (x_v10 : Int).toNat * 8), (s, 0), (aa, ab + (x_v20 : Int).toNat * 2), (ac, 0), (af, 0), (ay, az + (x_v30 : Int).toNat * 1)]
abbrev K49c8 (f : (Some × Some)) : List SC := [.bool f.1.a0, .bool f.1.a1, .bool f.1.a2, .bool f.1.a3, .bool f.1.a4, .bool f.1.a5, .bool f.1.a6, .bool f.1.a7, .bool f.2.a0, .bool f.2.a1, .bool f.2.a2, .bool f.2.a3, .bool f.2.a4, .bool f.2.a5, .bool f.2.a6, .bool f.2.a7]
abbrev K49p9 (found : Bool) (many : Int) (a : Option Addr) (breaks : List Some) (d : Nat) (ad : Option Addr) (y : Yard) (ag : Nat) (ae : Option Addr) (ah bm_known : Nat) (x22 : Some) (u : Option Addr) (x31 : Column) (z : Nat) (f : (Some × Some)) : List Plc := [⟨[.bool found], some 4⟩, ⟨[.int .i64 many], some 3⟩, ⟨[.slice a breaks.length d], none⟩, ⟨(K49c2 ad y ag ae ah), none⟩, ⟨[.map (some bm_known)], none⟩, ⟨(K49c3 x22), none⟩, ⟨(K49c3 x22), some 74⟩, ⟨(K49c1 u x31 z), none⟩, ⟨(K49c1 u x31 z), some 90⟩, ⟨(K49c8 f), some 92⟩]
abbrev K49m10 (x_v10 : Int) (breaks : List Some) (a : Option Addr) (d : Nat) (x_v11 : Int) (a_l : Option Addr) (l : List Int) (c_l : Nat) : TM := [(tI 20 x_v10), (tI 19 ((breaks.length : Nat) : Int)), (tS 18 a breaks.length d), (tI 7 x_v11), (tS 0 a_l l.length c_l), (tP 2 3 0), (tP 3 4 0), (tP 4 0 0), (tP 5 1 0)]
abbrev K49m11 (x_v20 : Int) (x27 : List Column) (g : Option Addr) (m : Nat) (x_v21 x_v10 : Int) (breaks : List Some) (a : Option Addr) (d : Nat) (x_v11 : Int) (a_l : Option Addr) (l : List Int) (c_l : Nat) : TM := (tI 29 x_v20) :: (tI 28 ((x27.length : Nat) : Int)) :: (tS 27 g x27.length m) :: (tI 10 x_v21) :: (K49m10 x_v10 breaks a d x_v11 a_l l c_l)
abbrev K49m12 (breaks : List Some) (a : Option Addr) (d : Nat) (a_l : Option Addr) (l : List Int) (c_l : Nat) : TM := [(tI 19 ((breaks.length : Nat) : Int)), (tS 18 a breaks.length d), (tS 0 a_l l.length c_l), (tP 2 3 0), (tP 3 4 0), (tP 4 0 0), (tP 5 1 0)]
abbrev K49m13 (x31 : Column) (u : Option Addr) (z : Nat) (x_v20 : Int) (x27 : List Column) (g : Option Addr) (m : Nat) (x_v21 x_v10 : Int) (breaks : List Some) (a : Option Addr) (d : Nat) (x_v11 : Int) (a_l : Option Addr) (l : List Int) (c_l : Nat) : TM := (tI 35 ((x31.buses.length : Nat) : Int)) :: (tS 34 u x31.buses.length z) :: (tP 13 9 0) :: (tP 12 8 0) :: (K49m11 x_v20 x27 g m x_v21 x_v10 breaks a d x_v11 a_l l c_l)
set_option maxRecDepth 100000 in
set_option maxHeartbeats 4000000 in
theorem lane_Best_1_ok (n : Nat) {F : Fr} {h : Heap} {w : World} {b_breaks b_y b_known b_found b_many : Nat} (l : List Int) {a_l : Option Addr} {c_l : Nat} (hr_l : RepS h a_l c_l l) (found : Bool) (many : Int) (breaks : List Some) (hb_breaks : BoxS h b_breaks breaks) (y : Yard) (hb_y : BoxS h b_y y) (known : List (Key × Int)) {bm_known : Nat} {es_known : Array MapEntry} {cl_known : Nat} (hc_known : CellsAt h b_known [.map (some bm_known)]) (hX_known : F.X bm_known = some (.map es_known cl_known)) (hE_known : Ents h es_known.toList cl_known known) (hm : Mem F h [(b_found, 0), (b_many, 0)] [⟨[.bool found], some 4⟩, ⟨[.int .i64 many], some 3⟩] [] w) {r : Int × (List (Key × Int))} (H : lane_Best_1 n l found many breaks y known = some r) :
  Calls Try.prog 49 #[.slice a_l l.length c_l, .pointer (some ⟨b_breaks, 0, none⟩), .pointer (some ⟨b_y, 0, none⟩), .pointer (some ⟨b_known, 0, none⟩), .pointer (some ⟨b_found, 0, none⟩), .pointer (some ⟨b_many, 0, none⟩)] w (RetM fun v w' => ∃ (h' : Heap) (cy : Array MapEntry) (ct : Nat), Heap.le h h' ∧ (v = .int .i64 r.1) ∧ Ents h' cy.toList ct r.2 ∧ Mem (Fr.put F bm_known (some (.map cy ct))) h' [(b_found, 0), (b_many, 0)] [⟨[.bool found], some 4⟩, ⟨[.int .i64 many], some 3⟩] [] w') := by
 obtain ⟨_, hx_breaks, hc_breaks⟩ := id hb_breaks
 obtain ⟨a, d, rfl, ax⟩ := hx_breaks
 obtain ⟨_, hx_y, hc_y⟩ := id hb_y
 obtain ⟨_, _, rfl, ⟨ad, ag, rfl, ar⟩, ⟨_, _, rfl, ⟨ae, ah, rfl, au⟩, rfl⟩⟩ := hx_y
 refine enter' (e := [(b_found, 0), (b_many, 0), (b_breaks, 0), (b_y, 0), (b_known, 0)]) 84 [.c (.slice a_l l.length c_l), .c (.ptr 2 0), .c (.ptr 3 0), .c (.ptr 4 0), .c (.ptr 0 0), .c (.ptr 1 0)] Try.func49 rfl rfl rfl rfl fun t hk => ?_
 replace hm := hm.addPlc (o := 0) (cs := [.slice a breaks.length d]) (fun j c hj => by rw [Nat.zero_add]; exact hc_breaks j _ (map_get hj)) rfl (by kernel_rfl) (by kernel_rfl)
 replace hm := hm.addPlc (o := 0) (cs := [.slice ad y.room.length ag, .slice ae y.buses.length ah, .int .i64 y.broken]) (fun j c hj => by rw [Nat.zero_add]; exact hc_y j _ (map_get hj)) rfl (by kernel_rfl) (by kernel_rfl)
 replace hm := hm.addPlc (o := 0) (cs := [.map (some bm_known)]) (fun j c hj => by rw [Nat.zero_add]; exact hc_known j _ (map_get hj)) rfl (by kernel_rfl) (by kernel_rfl)
 rw [← Fr.put_self hX_known] at hm
 replace hm : Mem (Fr.put F bm_known (some (.map es_known cl_known))) h [(b_found, 0), (b_many, 0), (b_breaks, 0), (b_y, 0), (b_known, 0)] [⟨[.bool found], some 4⟩, ⟨[.int .i64 many], some 3⟩, ⟨[.slice a breaks.length d], none⟩, ⟨[.slice ad y.room.length ag, .slice ae y.buses.length ah, .int .i64 y.broken], none⟩, ⟨[.map (some bm_known)], none⟩] [] w := hm
 unfold lane_Best_1 at H
 refine wp_seq (wp_region_from (Rk 0 1 [(tI 7 0), (tS 0 a_l l.length c_l), (tP 1 2 0), (tP 2 3 0), (tP 3 4 0), (tP 4 0 0), (tP 5 1 0)] hk hm fun g2 d0 => ?_))
 refine wf (wp_scope_straight (wp_seq (wp_label (wp_seq (wp_seq (wp_region_from (Rk 0 3 [(tI 20 0), (tI 19 ((breaks.length : Nat) : Int)), (tS 18 a breaks.length d), (tI 7 0), (tS 0 a_l l.length c_l), (tP 2 3 0), (tP 3 4 0), (tP 4 0 0), (tP 5 1 0)] d0 hm fun g4 d7 => ?_)))))))
 refine wf ?_
 obtain ⟨bt, cw, H⟩ := bnd H
 refine wp_mid' (fun a' w' => ∃ (bv : Array MapEntry) (bu : Nat) (co : Array Value) (bp : Heap), a' = ⟨co, []⟩ ∧ Kn 84 [(b_found, 0), (b_many, 0), (b_breaks, 0), (b_y, 0), (b_known, 0)] [(tI 7 bt.1)] co ∧ Mem (Fr.put F bm_known (some (.map bv bu))) bp [(b_found, 0), (b_many, 0), (b_breaks, 0), (b_y, 0), (b_known, 0)] [⟨[.bool found], some 4⟩, ⟨[.int .i64 many], some 3⟩, ⟨[.slice a breaks.length d], none⟩, ⟨(K49c2 ad y ag ae ah), none⟩, ⟨[.map (some bm_known)], none⟩] [] w' ∧ Heap.le h bp ∧ Ents bp bv.toList bu bt.2) ?_ ?_
 ·
  refine wp_block ?_
  refine wp_loop_n (fun gc a' w' => ∃ (x_v10 : Int) (x_v11 : Int) (x_v12 : List (Key × Int)) (bm : Array MapEntry) (bl : Nat) (cp : Array Value) (bf : Heap), a' = ⟨cp, []⟩ ∧ Kn 84 [(b_found, 0), (b_many, 0), (b_breaks, 0), (b_y, 0), (b_known, 0)] (K49m10 x_v10 breaks a d x_v11 a_l l c_l) cp ∧ Mem (Fr.put F bm_known (some (.map bm bl))) bf [(b_found, 0), (b_many, 0), (b_breaks, 0), (b_y, 0), (b_known, 0)] [⟨[.bool found], some 4⟩, ⟨[.int .i64 many], some 3⟩, ⟨[.slice a breaks.length d], none⟩, ⟨(K49c2 ad y ag ae ah), none⟩, ⟨[.map (some bm_known)], none⟩] [] w' ∧ Heap.le h bf ∧ Ents bf bm.toList bl x_v12 ∧ lane_Best_1_l1 gc l found many breaks y x_v10 x_v11 x_v12 = some bt) n ?_ ?_
  ·
   exact Exists.intro 0 ⟨0, known, es_known, cl_known, _, _, rfl, d7.kp, hm, (Heap.le_refl _), hE_known, cw⟩
  ·
   rintro be _ im ⟨x_v10, x_v11, x_v12, bm, bl, cp, bf, rfl, fc, cj, ao, bw, aj⟩
   clear cw
   obtain _ | be := be
   ·
    rw [lane_Best_1_l1] at aj; cases aj
   rw [lane_Best_1_l1] at aj
   replace hr_l := hr_l.mono ao
   replace ax := ax.mono ao
   replace hb_breaks := hb_breaks.mono ao
   replace ar := ar.mono ao
   replace au := au.mono ao
   replace hb_y := hb_y.mono ao
   replace hc_known := hc_known.mono ao
   refine wp_seq (wp_region_from (Rk 0 1 ((tB 21 (decide (x_v10 < ((breaks.length : Nat) : Int)))) :: (K49m10 x_v10 breaks a d x_v11 a_l l c_l)) fc cj fun hx cc => ?_))
   refine wf (wp_seq (wC (decide (x_v10 < ((breaks.length : Nat) : Int))) cc (fun b6 => ?_) (fun b6 => ?_)))
   ·
    rw [b6, cond_true] at aj
    refine wp_skip (wp_seq (wp_block (wp_seq (wp_region_from ?_))))
    obtain ⟨x22, ex22, aj⟩ := bnd aj
    obtain ⟨fv, f0, ga⟩ := idx_some ex22
    obtain ⟨p, q, gw, dw, f5, dz⟩ := ax.get (by decide) ga
    obtain ⟨_, _, rfl, rfl, ⟨_, _, rfl, rfl, ⟨_, _, rfl, rfl, ⟨_, _, rfl, rfl, ⟨_, _, rfl, rfl, ⟨_, _, rfl, rfl, ⟨_, _, rfl, rfl, rfl⟩⟩⟩⟩⟩⟩⟩ := f5
    have dd := cj.addPlc (b := p) (o := q + (x_v10 : Int).toNat * 8) (cs := (K49c3 x22)) (fun j c hj => dz j _ (map_get hj)) rfl (by kernel_rfl) (by kernel_rfl)
    refine R_index 0 (x_v10) rfl rfl (rfl) rfl (by decide) cc (by rfl) (by rfl) (by rfl) dw (by rfl) fv f0 (by kernel_rfl) fun gp (fd : Kn 84 [(b_found, 0), (b_many, 0), (b_breaks, 0), (b_y, 0), (b_known, 0), (p, q + (x_v10 : Int).toNat * 8)] ((tP 22 5 0) :: (tB 21 (decide (x_v10 < ((breaks.length : Nat) : Int)))) :: (K49m10 x_v10 breaks a d x_v11 a_l l c_l)) gp) => ?_
    refine Rk 1 1 ((tA 23 (K49c3 x22)) :: (K49m10 x_v10 breaks a d x_v11 a_l l c_l)) fd dd fun hy fe => ?_
    refine wl fun K hK => ?_
    refine wa [.bool false, .bool false, .bool false, .bool false, .bool false, .bool false, .bool false, .bool false] fe dd fun s dm io (ff : Kn 84 (K49e4 b_found b_many b_breaks b_y b_known p q x_v10 s) ((tP 9 6 0) :: (tA 23 (K49c3 x22)) :: (K49m10 x_v10 breaks a d x_v11 a_l l c_l)) dm) fq => hK _ _ ?_
    refine wl fun K hK => ?_
    refine wst 6 0 (.agg (K49c3 x22)) (K49c3 x22) ff fq fun ip fg b1 => hK _ _ ?_
    have fh : Kn 84 (K49e4 b_found b_many b_breaks b_y b_known p q x_v10 s) ((tP 9 6 0) :: (K49m10 x_v10 breaks a d x_v11 a_l l c_l)) dm := fg.kp
    refine wf (wp_seq (wp_region_from (Rk 0 1 ((tI 10 0) :: (tP 9 6 0) :: (K49m10 x_v10 breaks a d x_v11 a_l l c_l)) fh b1 fun hz fi => ?_)))
    refine wf (wp_seq (wp_seq (wp_region_from (Rk 0 3 ((tA 26 (K49c3 x22)) :: (tS 25 a_l l.length c_l) :: (tA 24 (K49c2 ad y ag ae ah)) :: (tI 10 0) :: (K49m10 x_v10 breaks a d x_v11 a_l l c_l)) fi b1 fun h0 fj => ?_))))
    obtain ⟨x27, ex27, aj⟩ := bnd aj
    refine wl fun K hK => ?_
    refine wc [.agg (K49c2 ad y ag ae ah), .c (.slice a_l l.length c_l), .agg (K49c3 x22)] fj b1 (lane_Yard_columns_ok be b1.has y ((rep_pair (rep_slice ar) (rep_pair (rep_slice au) rep_int)) : rep bf y _) l hr_l x22 ((rep_pair rep_bool (rep_pair rep_bool (rep_pair rep_bool (rep_pair rep_bool (rep_pair rep_bool (rep_pair rep_bool (rep_pair rep_bool rep_bool))))))) : rep bf x22 _) ex27) fun h8 c2 iq ds ap de => ?_
    replace hr_l := hr_l.mono ap
    replace ax := ax.mono ap
    replace hb_breaks := hb_breaks.mono ap
    replace ar := ar.mono ap
    replace au := au.mono ap
    replace hb_y := hb_y.mono ap
    replace hc_known := hc_known.mono ap
    replace bw := bw.mono ap
    obtain ⟨g, m, rfl, bs⟩ := ds
    refine ⟨.one (.c (.slice g x27.length m)), rfl, fun gq (fk : Kn 84 (K49e4 b_found b_many b_breaks b_y b_known p q x_v10 s) ((tS 27 g x27.length m) :: (tA 26 (K49c3 x22)) :: (tS 25 a_l l.length c_l) :: (tA 24 (K49c2 ad y ag ae ah)) :: (tI 10 0) :: (K49m10 x_v10 breaks a d x_v11 a_l l c_l)) gq) => hK _ _ ?_⟩
    refine Rk 4 2 ((tI 29 0) :: (tI 28 ((x27.length : Nat) : Int)) :: (tS 27 g x27.length m) :: (tI 10 0) :: (K49m10 x_v10 breaks a d x_v11 a_l l c_l)) fk de fun h1 fl => ?_
    refine wf ?_
    obtain ⟨al, cx, aj⟩ := bnd aj
    refine wp_mid' (fun a' w' => ∃ (bb : Array MapEntry) (a9 : Nat) (cq : Array Value) (bc : Heap), a' = ⟨cq, []⟩ ∧ Kn 84 (K49e4 b_found b_many b_breaks b_y b_known p q x_v10 s) ((tI 10 al.1) :: (K49m10 x_v10 breaks a d x_v11 a_l l c_l)) cq ∧ Mem (Fr.put F bm_known (some (.map bb a9))) bc (K49e4 b_found b_many b_breaks b_y b_known p q x_v10 s) [⟨[.bool found], some 4⟩, ⟨[.int .i64 many], some 3⟩, ⟨[.slice a breaks.length d], none⟩, ⟨(K49c2 ad y ag ae ah), none⟩, ⟨[.map (some bm_known)], none⟩, ⟨(K49c3 x22), none⟩, ⟨(K49c3 x22), some 74⟩] [] w' ∧ Heap.le c2 bc ∧ Ents bc bb.toList a9 al.2) ?_ ?_
    ·
     refine wp_block ?_
     refine wp_loop_n (fun gd a' w' => ∃ (x_v20 : Int) (x_v21 : Int) (x_v22 : List (Key × Int)) (ba : Array MapEntry) (a8 : Nat) (cr : Array Value) (bg : Heap), a' = ⟨cr, []⟩ ∧ Kn 84 (K49e4 b_found b_many b_breaks b_y b_known p q x_v10 s) (K49m11 x_v20 x27 g m x_v21 x_v10 breaks a d x_v11 a_l l c_l) cr ∧ Mem (Fr.put F bm_known (some (.map ba a8))) bg (K49e4 b_found b_many b_breaks b_y b_known p q x_v10 s) [⟨[.bool found], some 4⟩, ⟨[.int .i64 many], some 3⟩, ⟨[.slice a breaks.length d], none⟩, ⟨(K49c2 ad y ag ae ah), none⟩, ⟨[.map (some bm_known)], none⟩, ⟨(K49c3 x22), none⟩, ⟨(K49c3 x22), some 74⟩] [] w' ∧ Heap.le c2 bg ∧ Ents bg ba.toList a8 x_v22 ∧ lane_Best_1_l2 gd many y x27 x_v20 x_v21 x_v22 = some al) be ?_ ?_
     ·
      exact Exists.intro 0 ⟨0, x_v12, bm, bl, _, _, rfl, fl.kp, de, (Heap.le_refl _), bw, cx⟩
     ·
      rintro bj _ ir ⟨x_v20, x_v21, x_v22, ba, a8, cr, bg, rfl, fm, ck, aq, av, ai⟩
      clear cx
      obtain _ | bj := bj
      ·
       rw [lane_Best_1_l2] at ai; cases ai
      rw [lane_Best_1_l2] at ai
      replace hr_l := hr_l.mono aq
      replace ax := ax.mono aq
      replace hb_breaks := hb_breaks.mono aq
      replace ar := ar.mono aq
      replace au := au.mono aq
      replace hb_y := hb_y.mono aq
      replace hc_known := hc_known.mono aq
      replace bs := bs.mono aq
      refine wp_seq (wp_region_from (Rk 0 1 ((tB 30 (decide (x_v20 < ((x27.length : Nat) : Int)))) :: (K49m11 x_v20 x27 g m x_v21 x_v10 breaks a d x_v11 a_l l c_l)) fm ck fun h2 cd => ?_))
      refine wf (wp_seq (wC (decide (x_v20 < ((x27.length : Nat) : Int))) cd (fun b7 => ?_) (fun b7 => ?_)))
      ·
       rw [b7, cond_true] at ai
       refine wp_skip (wp_seq (wp_block (wp_seq (wp_region_from ?_))))
       obtain ⟨x31, ex31, ai⟩ := bnd ai
       obtain ⟨fr, fw, f6⟩ := idx_some ex31
       obtain ⟨aa, ab, gu, du, f3, dx⟩ := bs.get (by decide) f6
       obtain ⟨_, _, rfl, ⟨u, z, rfl, bi⟩, rfl⟩ := f3
       have c8 := ck.addPlc (b := aa) (o := ab + (x_v20 : Int).toNat * 2) (cs := (K49c1 u x31 z)) (fun j c hj => dx j _ (map_get hj)) rfl (by kernel_rfl) (by kernel_rfl)
       refine R_index 0 (x_v20) rfl rfl (rfl) rfl (by decide) cd (by rfl) (by rfl) (by rfl) du (by rfl) fr fw (by kernel_rfl) fun gf (d1 : Kn 84 [(b_found, 0), (b_many, 0), (b_breaks, 0), (b_y, 0), (b_known, 0), (p, q + (x_v10 : Int).toNat * 8), (s, 0), (aa, ab + (x_v20 : Int).toNat * 2)] ((tP 31 7 0) :: (tB 30 (decide (x_v20 < ((x27.length : Nat) : Int)))) :: (K49m11 x_v20 x27 g m x_v21 x_v10 breaks a d x_v11 a_l l c_l)) gf) => ?_
       refine Rk 1 1 ((tA 32 (K49c1 u x31 z)) :: (K49m11 x_v20 x27 g m x_v21 x_v10 breaks a d x_v11 a_l l c_l)) d1 c8 fun g3 d2 => ?_
       refine wl fun K hK => ?_
       refine wa [.slice none 0 0, .int .i64 0] d2 c8 fun ac di h9 (d3 : Kn 84 [(b_found, 0), (b_many, 0), (b_breaks, 0), (b_y, 0), (b_known, 0), (p, q + (x_v10 : Int).toNat * 8), (s, 0), (aa, ab + (x_v20 : Int).toNat * 2), (ac, 0)] ((tP 12 8 0) :: (tA 32 (K49c1 u x31 z)) :: (K49m11 x_v20 x27 g m x_v21 x_v10 breaks a d x_v11 a_l l c_l)) di) fo => hK _ _ ?_
       refine wl fun K hK => ?_
       refine wst 8 0 (.agg (K49c1 u x31 z)) (K49c1 u x31 z) d3 fo fun ia d4 fp => hK _ _ ?_
       have d5 : Kn 84 [(b_found, 0), (b_many, 0), (b_breaks, 0), (b_y, 0), (b_known, 0), (p, q + (x_v10 : Int).toNat * 8), (s, 0), (aa, ab + (x_v20 : Int).toNat * 2), (ac, 0)] ((tP 12 8 0) :: (K49m11 x_v20 x27 g m x_v21 x_v10 breaks a d x_v11 a_l l c_l)) di := d4.kp
       refine wf (wp_seq (wp_region_from (wl fun K hK => ?_)))
       refine wa [.bool false, .bool false, .bool false, .bool false, .bool false, .bool false, .bool false, .bool false, .bool false, .bool false, .bool false, .bool false, .bool false, .bool false, .bool false, .bool false] d5 fp fun af gg ib (d6 : Kn 84 (K49e5 b_found b_many b_breaks b_y b_known p q x_v10 s aa ab x_v20 ac af) ((tP 13 9 0) :: (tP 12 8 0) :: (K49m11 x_v20 x27 g m x_v21 x_v10 breaks a d x_v11 a_l l c_l)) gg) c9 => hK _ _ ?_
       refine wf (wp_seq (wp_seq (wp_region_from (Rk 0 4 ((tI 36 0) :: (K49m13 x31 u z x_v20 x27 g m x_v21 x_v10 breaks a d x_v11 a_l l c_l)) d6 c9 fun g5 d8 => ?_))))
       refine wf ?_
       obtain ⟨f, cv, ai⟩ := bnd ai
       refine wp_mid' (fun a' w' => ∃ (cm : Array Value) (bo : Heap), a' = ⟨cm, []⟩ ∧ Kn 84 (K49e5 b_found b_many b_breaks b_y b_known p q x_v10 s aa ab x_v20 ac af) ((tP 13 9 0) :: (tP 12 8 0) :: (K49m11 x_v20 x27 g m x_v21 x_v10 breaks a d x_v11 a_l l c_l)) cm ∧ Mem (Fr.put F bm_known (some (.map ba a8))) bo (K49e5 b_found b_many b_breaks b_y b_known p q x_v10 s aa ab x_v20 ac af) (K49p9 found many a breaks d ad y ag ae ah bm_known x22 u x31 z f) [] w' ∧ Heap.le bg bo) ?_ ?_
       ·
        refine wp_block ?_
        refine wp_loop_n (fun gb a' w' => ∃ (x_v30 : Int) (x_v31 : Some) (x_v32 : Some) (cn : Array Value) (b2 : Heap), a' = ⟨cn, []⟩ ∧ Kn 84 (K49e5 b_found b_many b_breaks b_y b_known p q x_v10 s aa ab x_v20 ac af) ((tI 36 x_v30) :: (K49m13 x31 u z x_v20 x27 g m x_v21 x_v10 breaks a d x_v11 a_l l c_l)) cn ∧ Mem (Fr.put F bm_known (some (.map ba a8))) b2 (K49e5 b_found b_many b_breaks b_y b_known p q x_v10 s aa ab x_v20 ac af) [⟨[.bool found], some 4⟩, ⟨[.int .i64 many], some 3⟩, ⟨[.slice a breaks.length d], none⟩, ⟨(K49c2 ad y ag ae ah), none⟩, ⟨[.map (some bm_known)], none⟩, ⟨(K49c3 x22), none⟩, ⟨(K49c3 x22), some 74⟩, ⟨(K49c1 u x31 z), none⟩, ⟨(K49c1 u x31 z), some 90⟩, ⟨[.bool x_v31.a0, .bool x_v31.a1, .bool x_v31.a2, .bool x_v31.a3, .bool x_v31.a4, .bool x_v31.a5, .bool x_v31.a6, .bool x_v31.a7, .bool x_v32.a0, .bool x_v32.a1, .bool x_v32.a2, .bool x_v32.a3, .bool x_v32.a4, .bool x_v32.a5, .bool x_v32.a6, .bool x_v32.a7], some 92⟩] [] w' ∧ Heap.le bg b2 ∧ lane_Best_1_l3 gb x31 x_v30 x_v31 x_v32 = some f) bj ?_ ?_
        ·
         exact Exists.intro 0 ⟨(Some.mk false false false false false false false false), (Some.mk false false false false false false false false), _, _, rfl, d8.kp, c9, (Heap.le_refl _), cv⟩
        ·
         rintro cl _ ic ⟨x_v30, x_v31, x_v32, cn, b2, rfl, d9, bz, ce, ak⟩
         clear cv
         obtain _ | cl := cl
         ·
          rw [lane_Best_1_l3] at ak; cases ak
         rw [lane_Best_1_l3] at ak
         replace bi := bi.mono ce
         refine wp_seq (wp_region_from (Rk 0 1 ((tB 37 (decide (x_v30 < ((x31.buses.length : Nat) : Int)))) :: (tI 36 x_v30) :: (K49m13 x31 u z x_v20 x27 g m x_v21 x_v10 breaks a d x_v11 a_l l c_l)) d9 bz fun g6 b9 => ?_))
         refine wf (wp_seq (wC (decide (x_v30 < ((x31.buses.length : Nat) : Int))) b9 (fun b3 => ?_) (fun b3 => ?_)))
         ·
          rw [b3, cond_true] at ak
          refine wp_skip (wp_seq (wp_block (wp_seq (wp_region_from (Rk 0 1 ((tI 38 x_v30) :: (tI 36 x_v30) :: (K49m13 x31 u z x_v20 x27 g m x_v21 x_v10 breaks a d x_v11 a_l l c_l)) b9 bz fun g7 ea => ?_)))))
          obtain ⟨x39, ex39, ak⟩ := bnd ak
          obtain ⟨fs, fx, f7⟩ := idx_some ex39
          obtain ⟨ay, az, gv, dv, f4, dy⟩ := bi.get (by decide) f7
          obtain rfl := f4
          have bd := bz.addPlc (b := ay) (o := az + (x_v30 : Int).toNat * 1) (cs := [.int .i64 x39]) (fun j c hj => dy j _ (map_get hj)) rfl (by kernel_rfl) (by kernel_rfl)
          refine R_index 1 (x_v30) rfl rfl (rfl) rfl (by decide) ea (by rfl) (by rfl) (by rfl) dv (by rfl) fs fx (by kernel_rfl) fun gh (eb : Kn 84 (K49e7 b_found b_many b_breaks b_y b_known p q x_v10 s aa ab x_v20 ac af ay az x_v30) ((tP 39 10 0) :: (tI 38 x_v30) :: (tI 36 x_v30) :: (K49m13 x31 u z x_v20 x27 g m x_v21 x_v10 breaks a d x_v11 a_l l c_l)) gh) => ?_
          refine Rk 2 3 ((tI 15 x39) :: (tI 14 x_v30) :: (tI 36 x_v30) :: (K49m13 x31 u z x_v20 x27 g m x_v21 x_v10 breaks a d x_v11 a_l l c_l)) eb bd fun g8 ec => ?_
          refine wf (wp_region_G (by kernel_rfl) ?_)
          replace bd := bd.drew
          refine wpG_of_D [] (K49e7 b_found b_many b_breaks b_y b_known p q x_v10 s aa ab x_v20 ac af ay az x_v30) [⟨[.bool found], some 4⟩, ⟨[.int .i64 many], some 3⟩, ⟨[.slice a breaks.length d], none⟩, ⟨(K49c2 ad y ag ae ah), none⟩, ⟨[.map (some bm_known)], none⟩, ⟨(K49c3 x22), none⟩, ⟨(K49c3 x22), some 74⟩, ⟨(K49c1 u x31 z), none⟩, ⟨(K49c1 u x31 z), some 90⟩, ⟨[], some 92⟩, ⟨[.int .i64 x39], none⟩] ?_
          refine D_run [0, 1, 2, 3, 4, 5, 6] [6, 5, 4, 3, 2, 1, 0] [47, 46, 42, 41, 36, 35, 34, 13, 12, 29, 28, 27, 10, 20, 19, 18, 7, 0, 2, 3, 4, 5] ((tP 47 9 0) :: (tB 46 (decide (x_v30 ≥ x31.down))) :: (tI 42 x39) :: (tI 41 x39) :: (tI 36 x_v30) :: (K49m13 x31 u z x_v20 x27 g m x_v21 x_v10 breaks a d x_v11 a_l l c_l)) (fun _ _ _ _ _ h => h) ec (PlOk.forget [9] bd.plOk) (by kernel_rfl) (by rfl) (by kernel_rfl) fun g9 c3 => ?_
          obtain ⟨x48, ex48, ak⟩ := bnd ak
          obtain ⟨ft, fy⟩ := rng_some ex48
          refine D_one 7 (.one (.c (.ptr 9 (0 + (x39 : Int).toNat * 1)))) (fun _ _ _ _ _ h => h) rfl (by kernel_rfl) (by kernel_rfl) (rfl) rfl (PlOk.forget [9] bd.plOk) (fun _ h => h) (fun w => run_indexA (E := 4) c3 rfl (by kernel_rfl) (by kernel_rfl) (by rfl) (by rfl) ft fy) (c3.put (by decide) _) fun gi (ed : Kn 84 (K49e7 b_found b_many b_breaks b_y b_known p q x_v10 s aa ab x_v20 ac af ay az x_v30) ((tP 48 9 (0 + (x39 : Int).toNat * 1)) :: (tP 47 9 0) :: (tB 46 (decide (x_v30 ≥ x31.down))) :: (tI 42 x39) :: (tI 41 x39) :: (tI 36 x_v30) :: (K49m13 x31 u z x_v20 x27 g m x_v21 x_v10 breaks a d x_v11 a_l l c_l)) gi) => ?_
          refine D_run [9] [9, 7, 6, 5, 4, 3, 2, 1, 0] [49, 48, 46, 42, 36, 35, 34, 13, 12, 29, 28, 27, 10, 20, 19, 18, 7, 0, 2, 3, 4, 5] ((tP 49 9 8) :: (tP 48 9 (0 + (x39 : Int).toNat * 1)) :: (tB 46 (decide (x_v30 ≥ x31.down))) :: (tI 42 x39) :: (tI 36 x_v30) :: (K49m13 x31 u z x_v20 x27 g m x_v21 x_v10 breaks a d x_v11 a_l l c_l)) (fun _ _ _ _ _ h => h) ed (PlOk.forget [9] bd.plOk) (by kernel_rfl) (by rfl) (by kernel_rfl) fun ha ee => ?_
          obtain ⟨us0, eus0, ak⟩ := bnd ak
          obtain ⟨gy, g0, f8⟩ := Some.setI_some eus0
          refine Dl 8 fun K hK => ?_
          refine wp_store 9 (0 + (x39 : Int).toNat * 1) (.c (.bool true)) [.bool us0.a0, .bool us0.a1, .bool us0.a2, .bool us0.a3, .bool us0.a4, .bool us0.a5, .bool us0.a6, .bool us0.a7, .bool x_v32.a0, .bool x_v32.a1, .bool x_v32.a2, .bool x_v32.a3, .bool x_v32.a4, .bool x_v32.a5, .bool x_v32.a6, .bool x_v32.a7] ee bd rfl rfl (by rfl) (by rfl) (by rfl) (by kernel_rfl) (by refine decide_eq_true ?_; show (0 + (x39 : Int).toNat * 1) + 1 ≤ 16; omega) (arr_set (fun (y : Bool) => ([.bool y] : List SC)) 1 (fun _ => rfl) [] [.bool x_v32.a0, .bool x_v32.a1, .bool x_v32.a2, .bool x_v32.a3, .bool x_v32.a4, .bool x_v32.a5, .bool x_v32.a6, .bool x_v32.a7] x_v31.toL us0.toL (x39 : Int).toNat true f8 (show (x39 : Int).toNat < 8 by omega) rfl rfl rfl) fun ie c4 cg => hK _ _ (PlOk.forget [9] cg.plOk) ?_
          obtain ⟨x50, ex50, ak⟩ := bnd ak
          obtain ⟨fu, fz⟩ := rng_some ex50
          refine D_one 10 (.one (.c (.ptr 9 (8 + (x39 : Int).toNat * 1)))) (fun _ _ _ _ _ h => h) rfl (by kernel_rfl) (by kernel_rfl) (rfl) rfl (PlOk.forget [9] cg.plOk) (fun _ h => h) (fun w => run_indexA (E := 4) c4 rfl (by kernel_rfl) (by kernel_rfl) (by rfl) (by rfl) fu fz) (c4.put (by decide) _) fun dj (ef : Kn 84 (K49e7 b_found b_many b_breaks b_y b_known p q x_v10 s aa ab x_v20 ac af ay az x_v30) ((tP 50 9 (8 + (x39 : Int).toNat * 1)) :: (tP 49 9 8) :: (tP 48 9 (0 + (x39 : Int).toNat * 1)) :: (tB 46 (decide (x_v30 ≥ x31.down))) :: (tI 42 x39) :: (tI 36 x_v30) :: (K49m13 x31 u z x_v20 x27 g m x_v21 x_v10 breaks a d x_v11 a_l l c_l)) dj) => ?_
          obtain ⟨us1, eus1, ak⟩ := bnd ak
          obtain ⟨gz, g1, f9⟩ := Some.setI_some eus1
          refine D_sync 11 rfl (by kernel_rfl) (by decide) (rfl) (by kernel_rfl) fun K hK => ?_
          refine wp_store 9 (8 + (x39 : Int).toNat * 1) (.c (.bool (decide (x_v30 ≥ x31.down)))) [.bool us0.a0, .bool us0.a1, .bool us0.a2, .bool us0.a3, .bool us0.a4, .bool us0.a5, .bool us0.a6, .bool us0.a7, .bool us1.a0, .bool us1.a1, .bool us1.a2, .bool us1.a3, .bool us1.a4, .bool us1.a5, .bool us1.a6, .bool us1.a7] ef cg rfl rfl (by rfl) (by rfl) (by rfl) (by kernel_rfl) (by refine decide_eq_true ?_; show (8 + (x39 : Int).toNat * 1) + 1 ≤ 16; omega) (arr_set (fun (y : Bool) => ([.bool y] : List SC)) 1 (fun _ => rfl) [.bool us0.a0, .bool us0.a1, .bool us0.a2, .bool us0.a3, .bool us0.a4, .bool us0.a5, .bool us0.a6, .bool us0.a7] [] x_v32.toL us1.toL (x39 : Int).toNat (decide (x_v30 ≥ x31.down)) f9 (show (x39 : Int).toNat < 8 by omega) rfl rfl rfl) fun ig eg da => hK _ _ ?_
          have eh : Kn 84 (K49e7 b_found b_many b_breaks b_y b_known p q x_v10 s aa ab x_v20 ac af ay az x_v30) ((tI 36 x_v30) :: (K49m13 x31 u z x_v20 x27 g m x_v21 x_v10 breaks a d x_v11 a_l l c_l)) dj := eg.kp
          refine wpG_end (by kernel_rfl) (wp_region_from (Rk 0 2 ((tI 36 (IntKind.i64.wrap (x_v30 + 1))) :: (K49m13 x31 u z x_v20 x27 g m x_v21 x_v10 breaks a d x_v11 a_l l c_l)) eh da fun hc ei => ?_))
          refine wf ?_
          exact Exists.intro cl ⟨Nat.lt_succ_self _, Exists.intro (IntKind.i64.wrap (x_v30 + 1)) ⟨us0, us1, _, _, rfl, ((ei.keep [36, 35, 34, 13, 12, 29, 28, 27, 10, 20, 19, 18, 7, 0, 2, 3, 4, 5] (by rfl)).cut 10 (by kernel_rfl)), (da.cutPl 10 (by kernel_rfl)), ce, ak⟩⟩
         ·
          rw [b3, cond_false] at ak
          refine wp_exit ?_
          obtain rfl := Option.some.inj ak
          exact Exists.intro _ ⟨_, rfl, b9.kp, bz, ce⟩
       ·
        rintro _ ih ⟨cm, bo, rfl, ej, am, an⟩
        replace hr_l := hr_l.mono an
        replace ax := ax.mono an
        replace hb_breaks := hb_breaks.mono an
        replace ar := ar.mono an
        replace au := au.mono an
        replace hb_y := hb_y.mono an
        replace hc_known := hc_known.mono an
        replace bs := bs.mono an
        replace bi := bi.mono an
        replace av := av.mono an
        refine wp_seq (wp_seq (wp_region_from (Rk 0 2 ((tA 54 (K49c8 f)) :: (53, .one (.c (.map (some bm_known)))) :: (tP 13 9 0) :: (tP 12 8 0) :: (K49m11 x_v20 x27 g m x_v21 x_v10 breaks a d x_v11 a_l l c_l)) ej am fun hd ek => ?_)))
        obtain ⟨x55, ex55, ai⟩ := bnd ai
        refine wl fun K hK => ?_
        refine wp_lookup (KT := 92) (E := 3) (k := ((Key.mk f.1 f.2) : Key)) (0 : Int) (.agg (K49c8 f)) ek rfl rfl (by decide) (by rfl) (by rfl) (by kernel_rfl) Key.KL (am.ext (Fr.put_X _ _ _)) av rfl (by kernel_rfl) rfl fun h3 df => ?_
        rw [Option.some.inj ex55] at df ⊢
        obtain rfl := df
        refine ⟨.tup [.c (.int .i64 x55.1), .c (.bool x55.2)], rfl, fun gj (el : Kn 84 (K49e5 b_found b_many b_breaks b_y b_known p q x_v10 s aa ab x_v20 ac af) ((55, .tup [.c (.int .i64 x55.1), .c (.bool x55.2)]) :: (tA 54 (K49c8 f)) :: (53, .one (.c (.map (some bm_known)))) :: (tP 13 9 0) :: (tP 12 8 0) :: (K49m11 x_v20 x27 g m x_v21 x_v10 breaks a d x_v11 a_l l c_l)) gj) => hK _ _ ?_⟩
        refine Rk 3 5 ((tB 17 x55.2) :: (tP 13 9 0) :: (tP 12 8 0) :: (K49m11 x_v20 x27 g m x_v21 x_v10 breaks a d x_v11 a_l l c_l)) el am fun he em => ?_
        refine wf (wp_seq (wp_region_from (Rk 0 2 ((tB 59 (!x55.2)) :: (tP 13 9 0) :: (tP 12 8 0) :: (K49m11 x_v20 x27 g m x_v21 x_v10 breaks a d x_v11 a_l l c_l)) em am fun hf ca => ?_)))
        refine wf (wC ((!x55.2)) ca (fun b4 => ?_) (fun b4 => ?_))
        ·
         rw [b4, cond_true] at ai
         refine wp_region_G (by kernel_rfl) ?_
         replace am := am.drew
         refine wpG_of_D [] (K49e5 b_found b_many b_breaks b_y b_known p q x_v10 s aa ab x_v20 ac af) (K49p9 found many a breaks d ad y ag ae ah bm_known x22 u x31 z f) ?_
         refine Dr [0, 1, 2, 3] (dn 3) ((tA 63 (K49c1 u x31 z)) :: (tA 62 (K49c2 ad y ag ae ah)) :: (tA 61 (K49c8 f)) :: (60, .one (.c (.map (some bm_known)))) :: (tP 13 9 0) :: (K49m11 x_v20 x27 g m x_v21 x_v10 breaks a d x_v11 a_l l c_l)) ca am fun hg en => ?_
         obtain ⟨x64, ex64, ai⟩ := bnd ai
         refine Dl 4 fun K hK => ?_
         refine wc [.agg (K49c2 ad y ag ae ah), .agg (K49c1 u x31 z)] en am (lane_Yard_worst_ok bj am.has y ((rep_pair (rep_slice ar) (rep_pair (rep_slice au) rep_int)) : rep bo y _) x31 ((rep_pair (rep_slice bi) rep_int) : rep bo x31 _) ex64) fun h4 dt ii dq c7 ch => ?_
         replace av := av.mono c7
         obtain ⟨_, rfl, ⟨_, _, rfl, rfl, ⟨_, _, rfl, rfl, ⟨_, _, rfl, rfl, ⟨_, _, rfl, rfl, ⟨_, _, rfl, rfl, ⟨_, _, rfl, rfl, ⟨_, _, rfl, rfl, ⟨_, _, rfl, rfl, rfl⟩⟩⟩⟩⟩⟩⟩⟩⟩ := dq
         refine ⟨.one (.agg (K49c6 x64)), rfl, fun gk (eo : Kn 84 (K49e5 b_found b_many b_breaks b_y b_known p q x_v10 s aa ab x_v20 ac af) ((tA 64 (K49c6 x64)) :: (tA 63 (K49c1 u x31 z)) :: (tA 62 (K49c2 ad y ag ae ah)) :: (tA 61 (K49c8 f)) :: (60, .one (.c (.map (some bm_known)))) :: (tP 13 9 0) :: (K49m11 x_v20 x27 g m x_v21 x_v10 breaks a d x_v11 a_l l c_l)) gk) => hK _ _ ch.plOk ?_⟩
         refine Dr [5] (dn 5) ((tI 65 x64.many) :: (tA 61 (K49c8 f)) :: (60, .one (.c (.map (some bm_known)))) :: (tP 13 9 0) :: (K49m11 x_v20 x27 g m x_v21 x_v10 breaks a d x_v11 a_l l c_l)) eo ch fun dk ep => ?_
         refine Dl 6 fun K hK => ?_
         refine wp_updateP (KT := 92) (E := 3) (k := ((Key.mk f.1 f.2) : Key)) (x := (x64.many : Int)) (.agg (K49c8 f)) (.c (.int .i64 x64.many)) ep ch rfl rfl (by rfl) (by rfl) (by rfl) (by kernel_rfl) Key.KL av rfl rfl fun cz cu gr c0 (er : Kn 84 (K49e5 b_found b_many b_breaks b_y b_known p q x_v10 s aa ab x_v20 ac af) ((tI 65 x64.many) :: (tA 61 (K49c8 f)) :: (60, .one (.c (.map (some bm_known)))) :: (tP 13 9 0) :: (K49m11 x_v20 x27 g m x_v21 x_v10 breaks a d x_v11 a_l l c_l)) dk) (bh : Mem (Fr.put F bm_known (some (.map cz cu))) dt (K49e5 b_found b_many b_breaks b_y b_known p q x_v10 s aa ab x_v20 ac af) (K49p9 found many a breaks d ad y ag ae ah bm_known x22 u x31 z f) [] gr) => hK _ _ bh.plOk ?_
         have es : Kn 84 (K49e5 b_found b_many b_breaks b_y b_known p q x_v10 s aa ab x_v20 ac af) ((tP 13 9 0) :: (K49m11 x_v20 x27 g m x_v21 x_v10 breaks a d x_v11 a_l l c_l)) dk := er.kp
         refine wpD_end (by kernel_rfl) (wp_region_from (Rk 0 3 ((tA 68 (K49c8 f)) :: (67, .one (.c (.map (some bm_known)))) :: (tI 66 x_v21) :: (tI 29 x_v20) :: (tI 28 ((x27.length : Nat) : Int)) :: (tS 27 g x27.length m) :: (K49m10 x_v10 breaks a d x_v11 a_l l c_l)) es bh fun hh et => ?_))
         obtain ⟨x69, ex69, ai⟩ := bnd ai
         refine wl fun K hK => ?_
         refine wp_lookup (KT := 92) (E := 3) (k := ((Key.mk f.1 f.2) : Key)) (0 : Int) (.agg (K49c8 f)) et rfl rfl (by decide) (by rfl) (by rfl) (by kernel_rfl) Key.KL (bh.ext (Fr.put_X _ _ _)) c0 rfl (by kernel_rfl) rfl fun h5 dg => ?_
         rw [Option.some.inj ex69] at dg ⊢
         obtain rfl := dg
         refine ⟨.one (.c (.int .i64 x69.1)), rfl, fun gl (eu : Kn 84 (K49e5 b_found b_many b_breaks b_y b_known p q x_v10 s aa ab x_v20 ac af) ((tI 69 x69.1) :: (tA 68 (K49c8 f)) :: (67, .one (.c (.map (some bm_known)))) :: (tI 66 x_v21) :: (tI 29 x_v20) :: (tI 28 ((x27.length : Nat) : Int)) :: (tS 27 g x27.length m) :: (K49m10 x_v10 breaks a d x_v11 a_l l c_l)) gl) => hK _ _ ?_⟩
         refine Rk 4 2 ((tI 10 (IntKind.i64.wrap (x_v21 + x69.1))) :: (tI 29 x_v20) :: (tI 28 ((x27.length : Nat) : Int)) :: (tS 27 g x27.length m) :: (K49m10 x_v10 breaks a d x_v11 a_l l c_l)) eu bh fun hi ev => ?_
         refine wf (wp_region_from (Rk 0 2 ((tI 29 (IntKind.i64.wrap (x_v20 + 1))) :: (tI 10 (IntKind.i64.wrap (x_v21 + x69.1))) :: (tI 28 ((x27.length : Nat) : Int)) :: (tS 27 g x27.length m) :: (K49m10 x_v10 breaks a d x_v11 a_l l c_l)) ev bh fun hl ew => ?_))
         refine wf ?_
         exact Exists.intro bj ⟨Nat.lt_succ_self _, Exists.intro (IntKind.i64.wrap (x_v20 + 1)) ⟨(IntKind.i64.wrap (x_v21 + x69.1)), (put? x_v22 (Key.mk f.1 f.2) x64.many), cz, cu, _, _, rfl, ((ew.keep [29, 28, 27, 10, 20, 19, 18, 7, 0, 2, 3, 4, 5] (by rfl)).cut 7 (by kernel_rfl)), (bh.cutPl 7 (by kernel_rfl)), (Heap.le_trans aq (Heap.le_trans an c7)), c0, ai⟩⟩
        ·
         rw [b4, cond_false] at ai
         refine wp_skip (wp_region_from (Rk 0 3 ((tA 68 (K49c8 f)) :: (67, .one (.c (.map (some bm_known)))) :: (tI 66 x_v21) :: (tI 29 x_v20) :: (tI 28 ((x27.length : Nat) : Int)) :: (tS 27 g x27.length m) :: (K49m10 x_v10 breaks a d x_v11 a_l l c_l)) ca am fun hn ex => ?_))
         obtain ⟨x69, ex69, ai⟩ := bnd ai
         refine wl fun K hK => ?_
         refine wp_lookup (KT := 92) (E := 3) (k := ((Key.mk f.1 f.2) : Key)) (0 : Int) (.agg (K49c8 f)) ex rfl rfl (by decide) (by rfl) (by rfl) (by kernel_rfl) Key.KL (am.ext (Fr.put_X _ _ _)) av rfl (by kernel_rfl) rfl fun h6 dh => ?_
         rw [Option.some.inj ex69] at dh ⊢
         obtain rfl := dh
         refine ⟨.one (.c (.int .i64 x69.1)), rfl, fun gm (ey : Kn 84 (K49e5 b_found b_many b_breaks b_y b_known p q x_v10 s aa ab x_v20 ac af) ((tI 69 x69.1) :: (tA 68 (K49c8 f)) :: (67, .one (.c (.map (some bm_known)))) :: (tI 66 x_v21) :: (tI 29 x_v20) :: (tI 28 ((x27.length : Nat) : Int)) :: (tS 27 g x27.length m) :: (K49m10 x_v10 breaks a d x_v11 a_l l c_l)) gm) => hK _ _ ?_⟩
         refine Rk 4 2 ((tI 10 (IntKind.i64.wrap (x_v21 + x69.1))) :: (tI 29 x_v20) :: (tI 28 ((x27.length : Nat) : Int)) :: (tS 27 g x27.length m) :: (K49m10 x_v10 breaks a d x_v11 a_l l c_l)) ey am fun ho ez => ?_
         refine wf (wp_region_from (Rk 0 2 ((tI 29 (IntKind.i64.wrap (x_v20 + 1))) :: (tI 10 (IntKind.i64.wrap (x_v21 + x69.1))) :: (tI 28 ((x27.length : Nat) : Int)) :: (tS 27 g x27.length m) :: (K49m10 x_v10 breaks a d x_v11 a_l l c_l)) ez am fun hp e0 => ?_))
         refine wf ?_
         exact Exists.intro bj ⟨Nat.lt_succ_self _, Exists.intro (IntKind.i64.wrap (x_v20 + 1)) ⟨(IntKind.i64.wrap (x_v21 + x69.1)), x_v22, ba, a8, _, _, rfl, ((e0.keep [29, 28, 27, 10, 20, 19, 18, 7, 0, 2, 3, 4, 5] (by rfl)).cut 7 (by kernel_rfl)), (am.cutPl 7 (by kernel_rfl)), (Heap.le_trans aq an), av, ai⟩⟩
      ·
       rw [b7, cond_false] at ai
       refine wp_exit ?_
       obtain rfl := Option.some.inj ai
       exact Exists.intro ba ⟨a8, _, _, rfl, cd.kp, ck, aq, av⟩
    ·
     rintro _ ij ⟨bb, a9, cq, bc, rfl, e1, db, cf, bn⟩
     refine wp_seq (wp_region_from (Rk 0 2 ((tI 73 al.1) :: (tI 72 x_v11) :: (tI 20 x_v10) :: (K49m12 breaks a d a_l l c_l)) e1 db fun hq e2 => ?_))
     refine wl fun K hK => ?_
     refine wS 3 1 [.int .i64 x_v11, .int .i64 al.1] e2 db fun bk gn gs (e3 : Kn 84 (K49e4 b_found b_many b_breaks b_y b_known p q x_v10 s) ((tS 74 bk 2 2) :: (tI 73 al.1) :: (tI 72 x_v11) :: (tI 20 x_v10) :: (K49m12 breaks a d a_l l c_l)) gn) dc => ?_
     have b8 : Cells bc ([x_v11, al.1] : List Int) ([.int .i64 x_v11, .int .i64 al.1] : List Value) := ⟨_, _, rfl, (rep_int : rep bc (x_v11 : Int) _), ⟨_, _, rfl, (rep_int : rep bc (al.1 : Int) _), rfl⟩⟩
     refine hK _ _ ?_
     obtain ⟨c1, br, f2, b0⟩ := dc.settle (i := 0) rfl
     replace b8 := b8.mono br
     replace b0 : Mem (Fr.put F bm_known (some (.map bb a9))) c1 (K49e4 b_found b_many b_breaks b_y b_known p q x_v10 s) [⟨[.bool found], some 4⟩, ⟨[.int .i64 many], some 3⟩, ⟨[.slice a breaks.length d], none⟩, ⟨(K49c2 ad y ag ae ah), none⟩, ⟨[.map (some bm_known)], none⟩, ⟨(K49c3 x22), none⟩, ⟨(K49c3 x22), some 74⟩] [⟨bk, 2, 2, 3, 1, ([.int .i64 x_v11, .int .i64 al.1] : List Value), (([.int .i64 x_v11, .int .i64 al.1] : List Value) : List Value).length⟩] gs := b0
     have f1 : RepS c1 bk 2 ([x_v11, al.1] : List Int) := ⟨_, b8, f2, dc.rowCap (i := 0) rfl⟩
     obtain ⟨x75, ex75, aj⟩ := bnd aj
     refine wl fun K hK => ?_
     refine wc [.c (.slice bk 2 2)] e3 b0 (lane_latest_ok be b0.has ([x_v11, al.1] : List Int) f1 ex75) fun h7 gx ik dr bx aw => ?_
     replace bn := bn.mono (Heap.le_trans br bx)
     obtain rfl := dr
     refine ⟨.one (.c (.int .i64 x75)), rfl, fun go (e4 : Kn 84 (K49e4 b_found b_many b_breaks b_y b_known p q x_v10 s) ((tI 75 x75) :: (tS 74 bk 2 2) :: (tI 73 al.1) :: (tI 72 x_v11) :: (tI 20 x_v10) :: (K49m12 breaks a d a_l l c_l)) go) => hK _ _ ?_⟩
     refine Rk 4 1 ((tI 7 x75) :: (tI 20 x_v10) :: (K49m12 breaks a d a_l l c_l)) e4 aw fun hr e5 => ?_
     refine wf (wp_seq (wp_region_from (Rk 0 2 ((tB 77 found) :: (tI 7 x75) :: (tI 20 x_v10) :: (K49m12 breaks a d a_l l c_l)) e5 aw fun dl c5 => ?_)))
     rcases Bool.eq_false_or_eq_true (found) with bq | bq
     ·
      rw [cond_t bq] at aj
      have e6 : Kn 84 (K49e4 b_found b_many b_breaks b_y b_known p q x_v10 s) ((tB 77 true) :: (tI 7 x75) :: (tI 20 x_v10) :: (K49m12 breaks a d a_l l c_l)) dl := (c5.setB 77 true (by rfl) bq).kp
      refine Rk 2 4 ((tB 81 (decide (x75 ≥ many))) :: (tI 7 x75) :: (tI 20 x_v10) :: (K49m12 breaks a d a_l l c_l)) e6 aw fun hs cb => ?_
      refine wf (wC (decide (x75 ≥ many)) cb (fun b5 => ?_) (fun b5 => ?_))
      ·
       rw [b5, cond_true] at aj
       refine wp_exit ?_
       obtain rfl := Option.some.inj aj
       exact Exists.intro bb ⟨a9, _, _, rfl, ((cb.keep [7] (by rfl)).cut 5 (by kernel_rfl)), ((aw.cutRw 0).cutPl 5 (by kernel_rfl)), (Heap.le_trans ao (Heap.le_trans ap (Heap.le_trans cf (Heap.le_trans br bx)))), bn⟩
      ·
       rw [b5, cond_false] at aj
       refine wp_skip (wp_region_from (Rk 0 2 ((tI 20 (IntKind.i64.wrap (x_v10 + 1))) :: (tI 7 x75) :: (K49m12 breaks a d a_l l c_l)) cb aw fun ht e7 => ?_))
       refine wf ?_
       exact Exists.intro be ⟨Nat.lt_succ_self _, Exists.intro (IntKind.i64.wrap (x_v10 + 1)) ⟨x75, al.2, bb, a9, _, _, rfl, ((e7.keep [20, 19, 18, 7, 0, 2, 3, 4, 5] (by rfl)).cut 5 (by kernel_rfl)), ((aw.cutRw 0).cutPl 5 (by kernel_rfl)), (Heap.le_trans ao (Heap.le_trans ap (Heap.le_trans cf (Heap.le_trans br bx)))), bn, aj⟩⟩
     ·
      rw [cond_f bq] at aj
      have e8 : Kn 84 (K49e4 b_found b_many b_breaks b_y b_known p q x_v10 s) ((tB 77 false) :: (tI 7 x75) :: (tI 20 x_v10) :: (K49m12 breaks a d a_l l c_l)) dl := (c5.setB 77 false (by rfl) bq).kp
      refine Rk 2 4 ((tB 81 false) :: (tI 7 x75) :: (tI 20 x_v10) :: (K49m12 breaks a d a_l l c_l)) e8 aw fun hu c6 => ?_
      refine wf (wC false c6 (fun hb => ?_) (fun hb => ?_))
      ·
       cases hb
      refine wp_skip (wp_region_from (Rk 0 2 ((tI 20 (IntKind.i64.wrap (x_v10 + 1))) :: (tI 7 x75) :: (K49m12 breaks a d a_l l c_l)) c6 aw fun hv e9 => ?_))
      refine wf ?_
      exact Exists.intro be ⟨Nat.lt_succ_self _, Exists.intro (IntKind.i64.wrap (x_v10 + 1)) ⟨x75, al.2, bb, a9, _, _, rfl, ((e9.keep [20, 19, 18, 7, 0, 2, 3, 4, 5] (by rfl)).cut 5 (by kernel_rfl)), ((aw.cutRw 0).cutPl 5 (by kernel_rfl)), (Heap.le_trans ao (Heap.le_trans ap (Heap.le_trans cf (Heap.le_trans br bx)))), bn, aj⟩⟩
   ·
    rw [b6, cond_false] at aj
    refine wp_exit ?_
    obtain rfl := Option.some.inj aj
    exact Exists.intro bm ⟨bl, _, _, rfl, cc.kp, cj, ao, bw⟩
 ·
  rintro _ il ⟨bv, bu, co, bp, rfl, fa, ci, fn, dp⟩
  refine wp_seq (wp_region_from (Rk 0 2 [(tI 7 bt.1)] fa ci fun hw fb => ?_))
  refine wf (wp_ret ?_)
  obtain rfl := Option.some.inj H
  exact retM_of (.one (.c (.int .i64 bt.1))) fb ci (by kernel_rfl) ⟨bp, bv, bu, fn, rfl, dp, ((ci.cutRw 0).cutPl 2 (by kernel_rfl))⟩
abbrev K53c1 (d : Option Addr) (y : Yard) (g : Nat) (f : Option Addr) (m : Nat) : List SC := [.slice d y.room.length g, .slice f y.buses.length m, .int .i64 y.broken]
abbrev K53e2 (b_found b_many b_best b_room b_y b_worst b_park b_breaks b_known : Nat) : Env := [(b_found, 0), (b_many, 0), (b_best, 0), (b_room, 0), (b_y, 0), (b_worst, 0), (b_park, 0), (b_breaks, 0), (b_known, 0)]
abbrev K53c3 (b_breaks b_y b_known b_found b_many : Nat) : List SC := [.func (.func 49) #[] #[.pointer (some ⟨b_breaks, 0, none⟩), .pointer (some ⟨b_y, 0, none⟩), .pointer (some ⟨b_known, 0, none⟩), .pointer (some ⟨b_found, 0, none⟩), .pointer (some ⟨b_many, 0, none⟩)]]
abbrev K53e4 (b_found b_many b_best b_room b_y b_worst b_park b_breaks b_known s : Nat) (x_v11 : Int) (u x : Nat) : Env := [(b_found, 0), (b_many, 0), (b_best, 0), (b_room, 0), (b_y, 0), (b_worst, 0), (b_park, 0), (b_breaks, 0), (b_known, 0), (s, 0 + (x_v11 : Int).toNat * 1), (u, 0 + (x_v11 : Int).toNat * 1), (x, 0 + (x_v11 : Int).toNat * 1)]
abbrev K53c5 (b_y b_worst b_found b_many b_best b_room b_park : Nat) : List SC := [.func (.func 53) #[] #[.pointer (some ⟨b_y, 0, none⟩), .pointer (some ⟨b_worst, 0, none⟩), .pointer (some ⟨b_found, 0, none⟩), .pointer (some ⟨b_many, 0, none⟩), .pointer (some ⟨b_best, 0, none⟩), .pointer (some ⟨b_room, 0, none⟩), .pointer (some ⟨b_park, 0, none⟩)]]
abbrev K53p6 (found : Bool) (many : Int) (z : Option Addr) (best : List Int) (aa : Nat) (a_room : Option Addr) (room : List Int) (c_room : Nat) (d : Option Addr) (y : Yard) (g : Nat) (f : Option Addr) (m b_breaks b_y b_known b_found b_many b_worst b_best b_room b_park : Nat) (p : Option Addr) (breaks : List Some) (q bm_known : Nat) : List Plc := [⟨[.bool found], some 4⟩, ⟨[.int .i64 many], some 3⟩, ⟨[.slice z best.length aa], some 22⟩, ⟨[.slice a_room room.length c_room], some 22⟩, ⟨(K53c1 d y g f m), none⟩, ⟨(K53c3 b_breaks b_y b_known b_found b_many), none⟩, ⟨(K53c5 b_y b_worst b_found b_many b_best b_room b_park), none⟩, ⟨[.slice p breaks.length q], none⟩, ⟨[.map (some bm_known)], none⟩]
abbrev K53m7 (x_v11 : Int) (room : List Int) (a_l : Option Addr) (l : List Int) (c_l : Nat) : TM := [(tI 32 x_v11), (tI 31 ((room.length : Nat) : Int)), (tS 0 a_l l.length c_l), (tP 6 3 0), (tP 7 6 0)]
abbrev K53m8 (x_v11 : Int) (a_l : Option Addr) (l : List Int) (c_l b_y b_worst b_found b_many b_best b_room b_park : Nat) (room : List Int) : TM := (tI 48 x_v11) :: (tS 47 a_l l.length c_l) :: (46, .one (.c (.func (.func 53) #[] #[.pointer (some ⟨b_y, 0, none⟩), .pointer (some ⟨b_worst, 0, none⟩), .pointer (some ⟨b_found, 0, none⟩), .pointer (some ⟨b_many, 0, none⟩), .pointer (some ⟨b_best, 0, none⟩), .pointer (some ⟨b_room, 0, none⟩), .pointer (some ⟨b_park, 0, none⟩)]))) :: (tI 10 x_v11) :: (K53m7 x_v11 room a_l l c_l)
abbrev K53m9 (a_l : Option Addr) (l : List Int) (c_l : Nat) : TM := [(tS 0 a_l l.length c_l), (tP 3 0 0), (tP 4 1 0), (tP 5 2 0)]
set_option maxRecDepth 100000 in
set_option maxHeartbeats 4000000 in
theorem lane_Best_2_rec (n : Nat) : ∀ (F : Fr) (h : Heap) (w : World) (b_y b_worst b_found b_many b_best b_room b_park b_breaks b_known : Nat) (l : List Int) (a_l : Option Addr) (c_l : Nat) (vs_l : List Value) (hc_l : Cells h l vs_l) (found : Bool) (many : Int) (best : List Int) (z : Option Addr) (aa : Nat) (ab : RepS h z aa best) (room : List Int) (a_room : Option Addr) (c_room : Nat) (vs_room : List Value) (hc_room : Cells h room vs_room) (y : Yard) (hb_y : BoxS h b_y y) (hc_worst : CellsAt h b_worst [.func (.func 49) #[] #[.pointer (some ⟨b_breaks, 0, none⟩), .pointer (some ⟨b_y, 0, none⟩), .pointer (some ⟨b_known, 0, none⟩), .pointer (some ⟨b_found, 0, none⟩), .pointer (some ⟨b_many, 0, none⟩)]]) (hc_park : CellsAt h b_park [.func (.func 53) #[] #[.pointer (some ⟨b_y, 0, none⟩), .pointer (some ⟨b_worst, 0, none⟩), .pointer (some ⟨b_found, 0, none⟩), .pointer (some ⟨b_many, 0, none⟩), .pointer (some ⟨b_best, 0, none⟩), .pointer (some ⟨b_room, 0, none⟩), .pointer (some ⟨b_park, 0, none⟩)]]) (breaks : List Some) (hb_breaks : BoxS h b_breaks breaks) (known : List (Key × Int)) (bm_known : Nat) (es_known : Array MapEntry) (cl_known : Nat) (hc_known : CellsAt h b_known [.map (some bm_known)]) (hX_known : F.X bm_known = some (.map es_known cl_known)) (hE_known : Ents h es_known.toList cl_known known) (hm : Mem F h [(b_found, 0), (b_many, 0), (b_best, 0), (b_room, 0)] [⟨[.bool found], some 4⟩, ⟨[.int .i64 many], some 3⟩, ⟨[.slice z best.length aa], some 22⟩, ⟨[.slice a_room room.length c_room], some 22⟩] [⟨a_l, l.length, c_l, 3, 1, vs_l, 0⟩, ⟨a_room, room.length, c_room, 3, 1, vs_room, 0⟩] w) (r : Bool × Int × (List Int) × (List Int) × (List (Key × Int))) (H : lane_Best_2 n l found many best room y breaks known = some r),
  Calls Try.prog 53 #[.slice a_l l.length c_l, .pointer (some ⟨b_y, 0, none⟩), .pointer (some ⟨b_worst, 0, none⟩), .pointer (some ⟨b_found, 0, none⟩), .pointer (some ⟨b_many, 0, none⟩), .pointer (some ⟨b_best, 0, none⟩), .pointer (some ⟨b_room, 0, none⟩), .pointer (some ⟨b_park, 0, none⟩)] w (RetM fun v w' => ∃ (h' : Heap) (bg : Option Addr) (bi : Nat) (bv : List Value) (bn : Array MapEntry) (bl : Nat), Heap.le h h' ∧ (v = .tuple #[]) ∧ RepS h' bg bi r.2.2.1 ∧ r.2.2.2.1.length = room.length ∧ Cells h' r.2.2.2.1 bv ∧ Ents h' bn.toList bl r.2.2.2.2 ∧ Mem (Fr.put F bm_known (some (.map bn bl))) h' [(b_found, 0), (b_many, 0), (b_best, 0), (b_room, 0)] [⟨[.bool r.1], some 4⟩, ⟨[.int .i64 r.2.1], some 3⟩, ⟨[.slice bg r.2.2.1.length bi], some 22⟩, ⟨[.slice a_room room.length c_room], some 22⟩] [⟨a_l, l.length, c_l, 3, 1, vs_l, 0⟩, ⟨a_room, room.length, c_room, 3, 1, bv, 0⟩] w') := by
 induction n using Nat.strongRecOn with
 | _ n ih =>
  intro F h w b_y b_worst b_found b_many b_best b_room b_park b_breaks b_known l a_l c_l vs_l hc_l found many best z aa ab room a_room c_room vs_room hc_room y hb_y hc_worst hc_park breaks hb_breaks known bm_known es_known cl_known hc_known hX_known hE_known hm r H
  obtain _ | n := n
  ·
   rw [lane_Best_2] at H; cases H
  obtain ⟨_, hx_y, hc_y⟩ := id hb_y
  obtain ⟨_, _, rfl, ⟨d, g, rfl, ao⟩, ⟨_, _, rfl, ⟨f, m, rfl, ap⟩, rfl⟩⟩ := hx_y
  obtain ⟨_, hx_breaks, hc_breaks⟩ := id hb_breaks
  obtain ⟨p, q, rfl, an⟩ := hx_breaks
  refine enter' (e := (K53e2 b_found b_many b_best b_room b_y b_worst b_park b_breaks b_known)) 59 [.c (.slice a_l l.length c_l), .c (.ptr 4 0), .c (.ptr 5 0), .c (.ptr 0 0), .c (.ptr 1 0), .c (.ptr 2 0), .c (.ptr 3 0), .c (.ptr 6 0)] Try.func53 rfl rfl rfl rfl fun t hk => ?_
  replace hm := hm.addPlc (o := 0) (cs := [.slice d y.room.length g, .slice f y.buses.length m, .int .i64 y.broken]) (fun j c hj => by rw [Nat.zero_add]; exact hc_y j _ (map_get hj)) rfl (by kernel_rfl) (by kernel_rfl)
  replace hm := hm.addPlc (o := 0) (cs := [.func (.func 49) #[] #[.pointer (some ⟨b_breaks, 0, none⟩), .pointer (some ⟨b_y, 0, none⟩), .pointer (some ⟨b_known, 0, none⟩), .pointer (some ⟨b_found, 0, none⟩), .pointer (some ⟨b_many, 0, none⟩)]]) (fun j c hj => by rw [Nat.zero_add]; exact hc_worst j _ (map_get hj)) rfl (by kernel_rfl) (by kernel_rfl)
  replace hm := hm.addPlc (o := 0) (cs := [.func (.func 53) #[] #[.pointer (some ⟨b_y, 0, none⟩), .pointer (some ⟨b_worst, 0, none⟩), .pointer (some ⟨b_found, 0, none⟩), .pointer (some ⟨b_many, 0, none⟩), .pointer (some ⟨b_best, 0, none⟩), .pointer (some ⟨b_room, 0, none⟩), .pointer (some ⟨b_park, 0, none⟩)]]) (fun j c hj => by rw [Nat.zero_add]; exact hc_park j _ (map_get hj)) rfl (by kernel_rfl) (by kernel_rfl)
  replace hm := hm.addPlc (o := 0) (cs := [.slice p breaks.length q]) (fun j c hj => by rw [Nat.zero_add]; exact hc_breaks j _ (map_get hj)) rfl (by kernel_rfl) (by kernel_rfl)
  replace hm := hm.addPlc (o := 0) (cs := [.map (some bm_known)]) (fun j c hj => by rw [Nat.zero_add]; exact hc_known j _ (map_get hj)) rfl (by kernel_rfl) (by kernel_rfl)
  rw [← Fr.put_self hX_known] at hm
  replace hm : Mem (Fr.put F bm_known (some (.map es_known cl_known))) h [(b_found, 0), (b_many, 0), (b_best, 0), (b_room, 0), (b_y, 0), (b_worst, 0), (b_park, 0), (b_breaks, 0), (b_known, 0)] [⟨[.bool found], some 4⟩, ⟨[.int .i64 many], some 3⟩, ⟨[.slice z best.length aa], some 22⟩, ⟨[.slice a_room room.length c_room], some 22⟩, ⟨[.slice d y.room.length g, .slice f y.buses.length m, .int .i64 y.broken], none⟩, ⟨[.func (.func 49) #[] #[.pointer (some ⟨b_breaks, 0, none⟩), .pointer (some ⟨b_y, 0, none⟩), .pointer (some ⟨b_known, 0, none⟩), .pointer (some ⟨b_found, 0, none⟩), .pointer (some ⟨b_many, 0, none⟩)]], none⟩, ⟨[.func (.func 53) #[] #[.pointer (some ⟨b_y, 0, none⟩), .pointer (some ⟨b_worst, 0, none⟩), .pointer (some ⟨b_found, 0, none⟩), .pointer (some ⟨b_many, 0, none⟩), .pointer (some ⟨b_best, 0, none⟩), .pointer (some ⟨b_room, 0, none⟩), .pointer (some ⟨b_park, 0, none⟩)]], none⟩, ⟨[.slice p breaks.length q], none⟩, ⟨[.map (some bm_known)], none⟩] [⟨a_l, l.length, c_l, 3, 1, vs_l, 0⟩, ⟨a_room, room.length, c_room, 3, 1, vs_room, 0⟩] w := hm
  rw [lane_Best_2] at H
  refine wp_seq (wp_seq (wp_region_from (Rk 0 6 [(tB 16 (((l.length : Nat) : Int) == ((y.buses.length : Nat) : Int))), (tS 0 a_l l.length c_l), (tP 2 5 0), (tP 3 0 0), (tP 4 1 0), (tP 5 2 0), (tP 6 3 0), (tP 7 6 0)] hk hm fun jg cr => ?_)))
  refine wf (wC ((((l.length : Nat) : Int) == ((y.buses.length : Nat) : Int))) cr (fun cl => ?_) (fun cl => ?_))
  ·
   rw [cl, cond_true] at H
   refine wp_seq (wp_seq (wp_region_from (Rk 0 2 ((tS 18 a_l l.length c_l) :: (17, .one (.c (.func (.func 49) #[] #[.pointer (some ⟨b_breaks, 0, none⟩), .pointer (some ⟨b_y, 0, none⟩), .pointer (some ⟨b_known, 0, none⟩), .pointer (some ⟨b_found, 0, none⟩), .pointer (some ⟨b_many, 0, none⟩)]))) :: (K53m9 a_l l c_l)) cr hm fun jk ga => ?_)))
   have ew := ab
   have ex := ao
   have ey := ap
   have ez := hb_y
   have e0 := hc_worst
   have e1 := hc_park
   have e2 := an
   have e3 := hb_breaks
   have e4 := hc_known
   have e5 := hc_l
   have e6 := hc_room
   have e7 := hE_known
   obtain ⟨di, ai, h7, c3⟩ := hm.settle (i := 0) rfl
   replace hb_y := hb_y.mono ai
   replace hb_breaks := hb_breaks.mono ai
   replace hc_known := hc_known.mono ai
   replace hc_l := hc_l.mono ai
   replace hE_known := hE_known.mono ai
   replace c3 : Mem (Fr.put F bm_known (some (.map es_known cl_known))) di (K53e2 b_found b_many b_best b_room b_y b_worst b_park b_breaks b_known) (K53p6 found many z best aa a_room room c_room d y g f m b_breaks b_y b_known b_found b_many b_worst b_best b_room b_park p breaks q bm_known) [⟨a_l, l.length, c_l, 3, 1, vs_l, (vs_l : List Value).length⟩, ⟨a_room, room.length, c_room, 3, 1, vs_room, 0⟩] w := c3
   have h1 : RepS di a_l c_l l := ⟨_, hc_l, h7, hm.rowCap (i := 0) rfl⟩
   obtain ⟨x19, ex19, H⟩ := bnd H
   obtain ⟨iz, et, hb, h4⟩ := c3.lend1 bm_known (Fr.put_X _ _ _) [0, 1] [] (by kernel_rfl) (by kernel_rfl) (by kernel_rfl) (by kernel_rfl)
   refine wl fun K hK => ?_
   refine wp_callVM (.func (.func 49) #[] #[.pointer (some ⟨b_breaks, 0, none⟩), .pointer (some ⟨b_y, 0, none⟩), .pointer (some ⟨b_known, 0, none⟩), .pointer (some ⟨b_found, 0, none⟩), .pointer (some ⟨b_many, 0, none⟩)]) [.c (.slice a_l l.length c_l)] _ ga rfl rfl (by decide) (by rfl) (by rfl) rfl ⟨49, _, _, rfl, fun _ _ => by kernel_rfl, lane_Best_1_ok n l h1 found many breaks hb_breaks y hb_y known hc_known (et _ _ (Fr.put_X _ _ _)) hE_known hb ex19⟩ fun jz eh er => ?_
   obtain ⟨ev, aw, av, ac, rfl, em, hr⟩ := er
   have bs := h4 _ _ _ _ [] ac rfl (Nat.le_refl _) (by kernel_rfl) hr
   rw [Fr.put_put] at bs
   replace ab := ab.mono (Heap.le_trans ai ac)
   replace ao := ao.mono (Heap.le_trans ai ac)
   replace ap := ap.mono (Heap.le_trans ai ac)
   replace hb_y := hb_y.mono ac
   replace hc_worst := hc_worst.mono (Heap.le_trans ai ac)
   replace hc_park := hc_park.mono (Heap.le_trans ai ac)
   replace an := an.mono (Heap.le_trans ai ac)
   replace hb_breaks := hb_breaks.mono ac
   replace hc_known := hc_known.mono ac
   replace hc_l := hc_l.mono ac
   replace hc_room := hc_room.mono (Heap.le_trans ai ac)
   replace hE_known := hE_known.mono ac
   replace bs : Mem (Fr.put F bm_known (some (.map aw av))) ev [(b_found, 0), (b_many, 0), (b_best, 0), (b_room, 0), (b_y, 0), (b_worst, 0), (b_park, 0), (b_breaks, 0), (b_known, 0)] [⟨[.bool found], some 4⟩, ⟨[.int .i64 many], some 3⟩, ⟨[.slice z best.length aa], some 22⟩, ⟨[.slice a_room room.length c_room], some 22⟩, ⟨[.slice d y.room.length g, .slice f y.buses.length m, .int .i64 y.broken], none⟩, ⟨[.func (.func 49) #[] #[.pointer (some ⟨b_breaks, 0, none⟩), .pointer (some ⟨b_y, 0, none⟩), .pointer (some ⟨b_known, 0, none⟩), .pointer (some ⟨b_found, 0, none⟩), .pointer (some ⟨b_many, 0, none⟩)]], none⟩, ⟨[.func (.func 53) #[] #[.pointer (some ⟨b_y, 0, none⟩), .pointer (some ⟨b_worst, 0, none⟩), .pointer (some ⟨b_found, 0, none⟩), .pointer (some ⟨b_many, 0, none⟩), .pointer (some ⟨b_best, 0, none⟩), .pointer (some ⟨b_room, 0, none⟩), .pointer (some ⟨b_park, 0, none⟩)]], none⟩, ⟨[.slice p breaks.length q], none⟩, ⟨[.map (some bm_known)], none⟩] [⟨a_l, l.length, c_l, 3, 1, vs_l, (vs_l : List Value).length⟩, ⟨a_room, room.length, c_room, 3, 1, vs_room, 0⟩] eh := bs
   refine ⟨.one (.c (.int .i64 x19.1)), rfl, fun iu (gy : Kn 59 (K53e2 b_found b_many b_best b_room b_y b_worst b_park b_breaks b_known) ((tI 19 x19.1) :: (tS 18 a_l l.length c_l) :: (17, .one (.c (.func (.func 49) #[] #[.pointer (some ⟨b_breaks, 0, none⟩), .pointer (some ⟨b_y, 0, none⟩), .pointer (some ⟨b_known, 0, none⟩), .pointer (some ⟨b_found, 0, none⟩), .pointer (some ⟨b_many, 0, none⟩)]))) :: (K53m9 a_l l c_l)) iu) => hK _ _ ?_⟩
   refine Rk 3 1 ((tI 9 x19.1) :: (K53m9 a_l l c_l)) gy bs fun jt gz => ?_
   refine wf ?_
   have fx := hm.rowFree (i := 0) rfl rfl
   have hv := NoneIn.more (e' := []) (qs := []) (NoneIn.same (pl' := (K53p6 found many z best aa a_room room c_room d y g f m b_breaks b_y b_known b_found b_many b_worst b_best b_room b_park p breaks q bm_known)) hm.noneIn ⟨fun h => (by cases h), ⟨fun h => (by cases h), ⟨fun h => (by cases h), ⟨fun h => (by cases h), ⟨fun _ => rfl, ⟨fun _ => rfl, ⟨fun _ => rfl, ⟨fun _ => rfl, ⟨fun _ => rfl, trivial⟩⟩⟩⟩⟩⟩⟩⟩⟩) (Nat.le_of_ble_eq_true rfl) rfl rfl
   obtain ⟨ck, aj, a7⟩ := bs.forget (i := 0) rfl hm.Fle (Heap.le_trans ai ac) fx hv
   have ab := ew.mono aj
   have ao := ex.mono aj
   have ap := ey.mono aj
   have hb_y := ez.mono aj
   have hc_worst := e0.mono aj
   have hc_park := e1.mono aj
   have an := e2.mono aj
   have hb_breaks := e3.mono aj
   have hc_known := e4.mono aj
   have hc_l := e5.mono aj
   have hc_room := e6.mono aj
   have hE_known := e7.mono aj
   have a0 : Ents ck aw.toList av x19.2 := Ents.flat (fun _ _ _ _ hx => hx) em
   replace a7 : Mem (Fr.put F bm_known (some (.map aw av))) ck (K53e2 b_found b_many b_best b_room b_y b_worst b_park b_breaks b_known) (K53p6 found many z best aa a_room room c_room d y g f m b_breaks b_y b_known b_found b_many b_worst b_best b_room b_park p breaks q bm_known) [⟨a_l, l.length, c_l, 3, 1, vs_l, 0⟩, ⟨a_room, room.length, c_room, 3, 1, vs_room, 0⟩] eh := a7
   refine wp_seq ?_
   obtain ⟨eb, b4, H⟩ := bnd H
   refine wp_mid' (fun a' w' => ∃ (db : Array Value) (b6 : Heap), a' = ⟨db, []⟩ ∧ Kn 59 (K53e2 b_found b_many b_best b_room b_y b_worst b_park b_breaks b_known) [(tI 9 x19.1), (tS 0 a_l l.length c_l), (tP 3 0 0), (tP 4 1 0), (tP 5 2 0), (tB 26 eb)] db ∧ Mem (Fr.put F bm_known (some (.map aw av))) b6 (K53e2 b_found b_many b_best b_room b_y b_worst b_park b_breaks b_known) (K53p6 found many z best aa a_room room c_room d y g f m b_breaks b_y b_known b_found b_many b_worst b_best b_room b_park p breaks q bm_known) [⟨a_l, l.length, c_l, 3, 1, vs_l, 0⟩, ⟨a_room, room.length, c_room, 3, 1, vs_room, 0⟩] w' ∧ Heap.le ck b6) ?_ ?_
   ·
    refine wp_region_from (Rk 0 3 ((tB 22 (!found)) :: (tI 9 x19.1) :: (K53m9 a_l l c_l)) gz a7 fun ef dn => ?_)
    rcases Bool.eq_false_or_eq_true ((!found)) with bq | bq
    ·
     rw [bq, cond_true] at b4
     have g0 : Kn 59 (K53e2 b_found b_many b_best b_room b_y b_worst b_park b_breaks b_known) ((tB 22 true) :: (tI 9 x19.1) :: (K53m9 a_l l c_l)) ef := (dn.setB 22 true (by rfl) bq).kp
     refine Rk 3 4 ((tB 26 true) :: (tI 9 x19.1) :: (K53m9 a_l l c_l)) g0 a7 fun ju g1 => ?_
     refine wf ?_
     obtain rfl := Option.some.inj b4
     exact Exists.intro _ ⟨_, rfl, g1.kp, a7, (Heap.le_refl _)⟩
    ·
     rw [bq, cond_false] at b4
     have g2 : Kn 59 (K53e2 b_found b_many b_best b_room b_y b_worst b_park b_breaks b_known) ((tB 22 false) :: (tI 9 x19.1) :: (K53m9 a_l l c_l)) ef := (dn.setB 22 false (by rfl) bq).kp
     refine Rk 3 4 ((tB 26 (decide (x19.1 < many))) :: (tI 9 x19.1) :: (K53m9 a_l l c_l)) g2 a7 fun jv g3 => ?_
     refine wf ?_
     obtain rfl := Option.some.inj b4
     exact Exists.intro _ ⟨_, rfl, g3.kp, a7, (Heap.le_refl _)⟩
   ·
    rintro _ ix ⟨db, b6, rfl, cv, a8, ak⟩
    replace ab := ab.mono ak
    replace ao := ao.mono ak
    replace ap := ap.mono ak
    replace hb_y := hb_y.mono ak
    replace hc_worst := hc_worst.mono ak
    replace hc_park := hc_park.mono ak
    replace an := an.mono ak
    replace hb_breaks := hb_breaks.mono ak
    replace hc_known := hc_known.mono ak
    replace a0 := a0.mono ak
    replace hc_l := hc_l.mono ak
    replace hc_room := hc_room.mono ak
    obtain ⟨cf, ba, H⟩ := bnd H
    refine wp_mid' (fun a' w' => ∃ (bx : Option Addr) (b2 : Nat) (dc : Array Value) (bo : Heap), a' = ⟨dc, []⟩ ∧ Kn 59 (K53e2 b_found b_many b_best b_room b_y b_worst b_park b_breaks b_known) [] dc ∧ Mem (Fr.put F bm_known (some (.map aw av))) bo (K53e2 b_found b_many b_best b_room b_y b_worst b_park b_breaks b_known) [⟨[.bool cf.1], some 4⟩, ⟨[.int .i64 cf.2.1], some 3⟩, ⟨[.slice bx cf.2.2.length b2], some 22⟩, ⟨[.slice a_room room.length c_room], some 22⟩, ⟨(K53c1 d y g f m), none⟩, ⟨(K53c3 b_breaks b_y b_known b_found b_many), none⟩, ⟨(K53c5 b_y b_worst b_found b_many b_best b_room b_park), none⟩, ⟨[.slice p breaks.length q], none⟩, ⟨[.map (some bm_known)], none⟩] [⟨a_l, l.length, c_l, 3, 1, vs_l, 0⟩, ⟨a_room, room.length, c_room, 3, 1, vs_room, 0⟩] w' ∧ Heap.le b6 bo ∧ RepS bo bx b2 cf.2.2) ?_ ?_
    ·
     refine wC (eb) cv (fun co => ?_) (fun co => ?_)
     ·
      rw [cond_t co] at ba
      refine wp_region_from (Rk 0 1 [(tS 27 a_l l.length c_l), (tI 9 x19.1), (tP 3 0 0), (tP 4 1 0), (tP 5 2 0)] cv a8 fun jw g4 => ?_)
      have e8 := ab
      have e9 := ao
      have fa := ap
      have fb := hb_y
      have fc := hc_worst
      have fd := hc_park
      have fe := an
      have ff := hb_breaks
      have fg := hc_known
      have fh := hc_l
      have fi := hc_room
      have fj := a0
      obtain ⟨df, af, h5, b8⟩ := a8.settle (i := 0) rfl
      replace hc_l := hc_l.mono af
      replace b8 : Mem (Fr.put F bm_known (some (.map aw av))) df (K53e2 b_found b_many b_best b_room b_y b_worst b_park b_breaks b_known) (K53p6 found many z best aa a_room room c_room d y g f m b_breaks b_y b_known b_found b_many b_worst b_best b_room b_park p breaks q bm_known) [⟨a_l, l.length, c_l, 3, 1, vs_l, (vs_l : List Value).length⟩, ⟨a_room, room.length, c_room, 3, 1, vs_room, 0⟩] ix := b8
      have hw : RepS df a_l c_l l := ⟨_, hc_l, h5, a8.rowCap (i := 0) rfl⟩
      obtain ⟨x28, ex28, ba⟩ := bnd ba
      refine wl fun K hK => ?_
      refine wp_callO [.c (.slice a_l l.length c_l)] _ g4 b8 rfl rfl (by decide) (by rfl) rfl (fun _ _ => by kernel_rfl) (slices_Clone_int_int_own n b8.has l hw ex28) fun jx eu iv je eo ag b9 => ?_
      replace ab := ab.mono (Heap.le_trans af ag)
      replace ao := ao.mono (Heap.le_trans af ag)
      replace ap := ap.mono (Heap.le_trans af ag)
      replace hb_y := hb_y.mono (Heap.le_trans af ag)
      replace hc_worst := hc_worst.mono (Heap.le_trans af ag)
      replace hc_park := hc_park.mono (Heap.le_trans af ag)
      replace an := an.mono (Heap.le_trans af ag)
      replace hb_breaks := hb_breaks.mono (Heap.le_trans af ag)
      replace hc_known := hc_known.mono (Heap.le_trans af ag)
      replace hc_l := hc_l.mono ag
      replace hc_room := hc_room.mono (Heap.le_trans af ag)
      replace a0 := a0.mono (Heap.le_trans af ag)
      obtain ⟨ad, ae, bu, rfl, rfl, fk⟩ := eo
      replace b9 : Mem (Fr.put F bm_known (some (.map aw av))) eu (K53e2 b_found b_many b_best b_room b_y b_worst b_park b_breaks b_known) (K53p6 found many z best aa a_room room c_room d y g f m b_breaks b_y b_known b_found b_many b_worst b_best b_room b_park p breaks q bm_known) [⟨a_l, l.length, c_l, 3, 1, vs_l, (vs_l : List Value).length⟩, ⟨a_room, room.length, c_room, 3, 1, vs_room, 0⟩, ⟨ad, x28.length, ae, 3, 1, bu, 0⟩] iv := b9
      refine ⟨.one (.c (.slice ad x28.length ae)), rfl, fun il (fy : Kn 59 (K53e2 b_found b_many b_best b_room b_y b_worst b_park b_breaks b_known) [(tS 28 ad x28.length ae), (tS 27 a_l l.length c_l), (tI 9 x19.1), (tP 3 0 0), (tP 4 1 0), (tP 5 2 0)] il) => hK _ _ ?_⟩
      refine Rk 2 1 [(tI 29 x19.1), (tS 28 ad x28.length ae), (tP 3 0 0), (tP 4 1 0), (tP 5 2 0)] fy b9 fun im fz => ?_
      refine wl fun K hK => ?_
      refine wst 2 0 (.c (.slice ad x28.length ae)) [.slice ad x28.length ae] fz b9 fun j0 f0 hd => hK _ _ ?_
      refine wl fun K hK => ?_
      refine wst 1 0 (.c (.int .i64 x19.1)) [.int .i64 x19.1] f0 hd fun j1 f1 he => hK _ _ ?_
      refine wl fun K hK => ?_
      refine wst 0 0 (.c (.bool true)) [.bool true] f1 he fun eg f2 hf => hK _ _ ?_
      have f3 : Kn 59 (K53e2 b_found b_many b_best b_room b_y b_worst b_park b_breaks b_known) [] im := f2.kp
      refine wf ?_
      have fw := a8.rowFree (i := 0) rfl rfl
      have hu := NoneIn.more (e' := []) (qs := []) (NoneIn.same (pl' := [⟨[.bool true], some 4⟩, ⟨[.int .i64 x19.1], some 3⟩, ⟨[.slice ad x28.length ae], some 22⟩, ⟨[.slice a_room room.length c_room], some 22⟩, ⟨(K53c1 d y g f m), none⟩, ⟨(K53c3 b_breaks b_y b_known b_found b_many), none⟩, ⟨(K53c5 b_y b_worst b_found b_many b_best b_room b_park), none⟩, ⟨[.slice p breaks.length q], none⟩, ⟨[.map (some bm_known)], none⟩]) a8.noneIn ⟨fun h => (by cases h), ⟨fun h => (by cases h), ⟨fun h => (by cases h), ⟨fun h => (by cases h), ⟨fun _ => rfl, ⟨fun _ => rfl, ⟨fun _ => rfl, ⟨fun _ => rfl, ⟨fun _ => rfl, trivial⟩⟩⟩⟩⟩⟩⟩⟩⟩) (Nat.le_of_ble_eq_true rfl) rfl rfl
      obtain ⟨dg, ah, ca⟩ := hf.forget (i := 0) rfl a8.Fle (Heap.le_trans af ag) fw hu
      have ab := e8.mono ah
      have ao := e9.mono ah
      have ap := fa.mono ah
      have hb_y := fb.mono ah
      have hc_worst := fc.mono ah
      have hc_park := fd.mono ah
      have an := fe.mono ah
      have hb_breaks := ff.mono ah
      have hc_known := fg.mono ah
      have hc_l := fh.mono ah
      have hc_room := fi.mono ah
      have a0 := fj.mono ah
      have cp : Cells dg x28 bu := Cells.atInt fk
      replace ca : Mem (Fr.put F bm_known (some (.map aw av))) dg (K53e2 b_found b_many b_best b_room b_y b_worst b_park b_breaks b_known) [⟨[.bool true], some 4⟩, ⟨[.int .i64 x19.1], some 3⟩, ⟨[.slice ad x28.length ae], some 22⟩, ⟨[.slice a_room room.length c_room], some 22⟩, ⟨(K53c1 d y g f m), none⟩, ⟨(K53c3 b_breaks b_y b_known b_found b_many), none⟩, ⟨(K53c5 b_y b_worst b_found b_many b_best b_room b_park), none⟩, ⟨[.slice p breaks.length q], none⟩, ⟨[.map (some bm_known)], none⟩] [⟨a_l, l.length, c_l, 3, 1, vs_l, 0⟩, ⟨a_room, room.length, c_room, 3, 1, vs_room, 0⟩, ⟨ad, x28.length, ae, 3, 1, bu, 0⟩] eg := ca
      obtain ⟨dh, dp, h6, c0⟩ := ca.settle (i := 2) rfl
      replace cp := cp.mono dp
      replace c0 : Mem (Fr.put F bm_known (some (.map aw av))) dh (K53e2 b_found b_many b_best b_room b_y b_worst b_park b_breaks b_known) [⟨[.bool true], some 4⟩, ⟨[.int .i64 x19.1], some 3⟩, ⟨[.slice ad x28.length ae], some 22⟩, ⟨[.slice a_room room.length c_room], some 22⟩, ⟨(K53c1 d y g f m), none⟩, ⟨(K53c3 b_breaks b_y b_known b_found b_many), none⟩, ⟨(K53c5 b_y b_worst b_found b_many b_best b_room b_park), none⟩, ⟨[.slice p breaks.length q], none⟩, ⟨[.map (some bm_known)], none⟩] [⟨a_l, l.length, c_l, 3, 1, vs_l, 0⟩, ⟨a_room, room.length, c_room, 3, 1, vs_room, 0⟩, ⟨ad, x28.length, ae, 3, 1, bu, (bu : List Value).length⟩] eg := c0
      have hy : RepS dh ad ae x28 := ⟨_, cp, h6, ca.rowCap (i := 2) rfl⟩
      obtain rfl := Option.some.inj ba
      exact Exists.intro ad ⟨ae, _, _, rfl, f3.kp, (c0.cutRw 2), (Heap.le_trans ah dp), hy⟩
     ·
      rw [cond_f co] at ba
      refine wp_skip ?_
      obtain rfl := Option.some.inj ba
      exact Exists.intro z ⟨aa, _, _, rfl, cv.kp, a8, (Heap.le_refl _), ab⟩
    ·
     rintro _ j2 ⟨bx, b2, dc, bo, rfl, f4, dq, cy, h2⟩
     replace a0 := a0.mono cy
     replace hc_room := hc_room.mono cy
     refine wp_ret ?_
     obtain rfl := Option.some.inj H
     exact retM_of (.tup []) f4 dq (by kernel_rfl) ⟨bo, bx, b2, vs_room, aw, av, (Heap.le_trans aj (Heap.le_trans ak cy)), rfl, h2, rfl, hc_room, a0, ((dq.cutRw 2).cutPl 4 (by kernel_rfl))⟩
  ·
   rw [cl, cond_false] at H
   refine wp_skip (wp_seq (wp_region_from (Rk 0 3 [(tI 32 0), (tI 31 ((room.length : Nat) : Int)), (tS 0 a_l l.length c_l), (tP 6 3 0), (tP 7 6 0)] cr hm fun jf f5 => ?_)))
   refine wf ?_
   obtain ⟨a5, de, H⟩ := bnd H
   refine wp_mid' (fun a' w' => ∃ (cg : List Value) (bw : Option Addr) (b1 : Nat) (b5 : Array MapEntry) (b3 : Nat) (c8 : Array Value) (a6 : Heap), a' = ⟨c8, []⟩ ∧ Kn 59 (K53e2 b_found b_many b_best b_room b_y b_worst b_park b_breaks b_known) [] c8 ∧ Mem (Fr.put F bm_known (some (.map b5 b3))) a6 (K53e2 b_found b_many b_best b_room b_y b_worst b_park b_breaks b_known) [⟨[.bool a5.2.1], some 4⟩, ⟨[.int .i64 a5.2.2.1], some 3⟩, ⟨[.slice bw a5.2.2.2.1.length b1], some 22⟩, ⟨[.slice a_room room.length c_room], some 22⟩, ⟨(K53c1 d y g f m), none⟩, ⟨(K53c3 b_breaks b_y b_known b_found b_many), none⟩, ⟨(K53c5 b_y b_worst b_found b_many b_best b_room b_park), none⟩, ⟨[.slice p breaks.length q], none⟩, ⟨[.map (some bm_known)], none⟩] [⟨a_l, l.length, c_l, 3, 1, vs_l, 0⟩, ⟨a_room, room.length, c_room, 3, 1, cg, 0⟩] w' ∧ Heap.le h a6 ∧ Cells a6 a5.1 cg ∧ a5.1.length = room.length ∧ RepS a6 bw b1 a5.2.2.2.1 ∧ Ents a6 b5.toList b3 a5.2.2.2.2) ?_ ?_
   ·
    refine wp_block ?_
    refine wp_loop_n (fun ea a' w' => ∃ (x_v10 : List Int) (x_v11 : Int) (x_v12 : Bool) (x_v13 : Int) (x_v14 : (List Int)) (x_v15 : List (Key × Int)) (aq : List Value) (a3 : Option Addr) (a4 : Nat) (bb : Array MapEntry) (a9 : Nat) (c9 : Array Value) (al : Heap), a' = ⟨c9, []⟩ ∧ Kn 59 (K53e2 b_found b_many b_best b_room b_y b_worst b_park b_breaks b_known) (K53m7 x_v11 room a_l l c_l) c9 ∧ Mem (Fr.put F bm_known (some (.map bb a9))) al (K53e2 b_found b_many b_best b_room b_y b_worst b_park b_breaks b_known) [⟨[.bool x_v12], some 4⟩, ⟨[.int .i64 x_v13], some 3⟩, ⟨[.slice a3 x_v14.length a4], some 22⟩, ⟨[.slice a_room room.length c_room], some 22⟩, ⟨(K53c1 d y g f m), none⟩, ⟨(K53c3 b_breaks b_y b_known b_found b_many), none⟩, ⟨(K53c5 b_y b_worst b_found b_many b_best b_room b_park), none⟩, ⟨[.slice p breaks.length q], none⟩, ⟨[.map (some bm_known)], none⟩] [⟨a_l, l.length, c_l, 3, 1, vs_l, 0⟩, ⟨a_room, room.length, c_room, 3, 1, aq, 0⟩] w' ∧ Heap.le h al ∧ Cells al x_v10 aq ∧ x_v10.length = room.length ∧ RepS al a3 a4 x_v14 ∧ Ents al bb.toList a9 x_v15 ∧ ea ≤ n ∧ lane_Best_2_l1 ea l room y breaks x_v10 x_v11 x_v12 x_v13 x_v14 x_v15 = some a5) n ?_ ?_
    ·
     exact Exists.intro room ⟨0, found, many, best, known, vs_room, z, aa, es_known, cl_known, _, _, rfl, f5.kp, hm, (Heap.le_refl _), hc_room, rfl, ab, hE_known, Nat.le_refl _, de⟩
    ·
     rintro bt _ j3 ⟨x_v10, x_v11, x_v12, x_v13, x_v14, x_v15, aq, a3, a4, bb, a9, c9, al, rfl, f6, bf, am, ax, be, c5, cj, i9, a⟩
     clear de
     obtain _ | bt := bt
     ·
      rw [lane_Best_2_l1] at a; cases a
     rw [lane_Best_2_l1] at a
     replace ao := ao.mono am
     replace ap := ap.mono am
     replace hb_y := hb_y.mono am
     replace hc_worst := hc_worst.mono am
     replace hc_park := hc_park.mono am
     replace an := an.mono am
     replace hb_breaks := hb_breaks.mono am
     replace hc_known := hc_known.mono am
     replace hc_l := hc_l.mono am
     refine wp_seq (wp_region_from (Rk 0 1 ((tB 33 (decide (x_v11 < ((room.length : Nat) : Int)))) :: (K53m7 x_v11 room a_l l c_l)) f6 bf fun jh ct => ?_))
     refine wf (wp_seq (wC (decide (x_v11 < ((room.length : Nat) : Int))) ct (fun cm => ?_) (fun cm => ?_)))
     ·
      rw [cm, cond_true] at a
      refine wp_skip (wp_seq (wp_block (wp_seq (wp_region_from (Rk 0 2 ((tI 10 x_v11) :: (K53m7 x_v11 room a_l l c_l)) ct bf fun ji f7 => ?_)))))
      refine wf (wp_seq (wp_region_from (Rk 0 2 ((tI 36 x_v11) :: (tS 35 a_room room.length c_room) :: (tI 10 x_v11) :: (K53m7 x_v11 room a_l l c_l)) f7 bf fun jj f8 => ?_)))
      obtain ⟨x37, ex37, a⟩ := bnd a
      obtain ⟨dt, dy, ie⟩ := idx_some ex37
      have g6 := lt_of_idx dt dy
      obtain ⟨i0, h8, fm⟩ := cells_get (sz := 1) rfl ax ie
      obtain rfl := h8
      obtain ⟨s, bp⟩ := row_addr bf (i := 1) rfl (b0 := 0 + (x_v11 : Int).toNat * 1) (Nat.lt_of_lt_of_le (Nat.lt_add_of_pos_right (by decide)) (cells_fit (sz := 1) rfl ax g6))
      have a1 := bf.addPlc (b := s) (o := 0 + (x_v11 : Int).toNat * 1) (cs := []) (fun j c hj => by simp at hj) rfl (by kernel_rfl) (by kernel_rfl)
      have b7 : ∀ (e : Env) k c, ([.int .i64 x37] : List SC)[k]? = some c → (aq)[0 + (x_v11 : Int).toNat * 1 + k]? = some (c.den e) := fun e k c hk => fm k _ (map_get hk)
      have dz := dy
      rw [be] at dz
      refine R_index 2 (x_v11) rfl rfl (rfl) rfl (by decide) f8 (by rfl) (by rfl) (by rfl) bp (by rfl) dt dz (by kernel_rfl) fun io (f9 : Kn 59 [(b_found, 0), (b_many, 0), (b_best, 0), (b_room, 0), (b_y, 0), (b_worst, 0), (b_park, 0), (b_breaks, 0), (b_known, 0), (s, 0 + (x_v11 : Int).toNat * 1)] ((tP 37 9 0) :: (tI 36 x_v11) :: (tS 35 a_room room.length c_room) :: (tI 10 x_v11) :: (K53m7 x_v11 room a_l l c_l)) io) => ?_
      refine R_runk 3 2 [39, 10, 32, 31, 0, 6, 7] ((tB 39 (decide (x37 > 0))) :: (tI 10 x_v11) :: (K53m7 x_v11 room a_l l c_l)) f9 (PlOk.peek a1.plOk a1 1 9 rfl rfl bp [.int .i64 x37] (b7 _)) (by kernel_rfl) fun jl cu => ?_
      refine wf (wC (decide (x37 > 0)) cu (fun cn => ?_) (fun cn => ?_))
      ·
       rw [cn, cond_true] at a
       refine wp_seq (wp_region_from (R_runk 0 2 [41, 40, 10, 32, 31, 0, 6, 7] ((tI 41 x_v11) :: (tS 40 a_room room.length c_room) :: (tI 10 x_v11) :: (K53m7 x_v11 room a_l l c_l)) cu (PlOk.peek a1.plOk a1 1 9 rfl rfl bp [.int .i64 x37] (b7 _)) (by kernel_rfl) fun jm gb => ?_))
       obtain ⟨x42, ex42, a⟩ := bnd a
       obtain ⟨du, d0, ig⟩ := idx_some ex42
       have g7 := lt_of_idx du d0
       obtain ⟨i1, h9, fn⟩ := cells_get (sz := 1) rfl ax ig
       obtain rfl := h9
       obtain ⟨u, dj⟩ := row_addr a1 (i := 1) rfl (b0 := 0 + (x_v11 : Int).toNat * 1) (Nat.lt_of_lt_of_le (Nat.lt_add_of_pos_right (by decide)) (cells_fit (sz := 1) rfl ax g7))
       have br := a1.addPlc (b := u) (o := 0 + (x_v11 : Int).toNat * 1) (cs := []) (fun j c hj => by simp at hj) rfl (by kernel_rfl) (by kernel_rfl)
       have fo : ∀ (e : Env) k c, ([.int .i64 x42] : List SC)[k]? = some c → (aq)[0 + (x_v11 : Int).toNat * 1 + k]? = some (c.den e) := fun e k c hk => fn k _ (map_get hk)
       have d1 := d0
       rw [be] at d1
       refine R_index 2 (x_v11) rfl rfl (rfl) rfl (by decide) gb (by rfl) (by rfl) (by rfl) dj (by rfl) du d1 (by kernel_rfl) fun ip (gc : Kn 59 [(b_found, 0), (b_many, 0), (b_best, 0), (b_room, 0), (b_y, 0), (b_worst, 0), (b_park, 0), (b_breaks, 0), (b_known, 0), (s, 0 + (x_v11 : Int).toNat * 1), (u, 0 + (x_v11 : Int).toNat * 1)] ((tP 42 10 0) :: (tI 41 x_v11) :: (tS 40 a_room room.length c_room) :: (tI 10 x_v11) :: (K53m7 x_v11 room a_l l c_l)) ip) => ?_
       refine R_runk 3 2 [44, 41, 40, 10, 32, 31, 0, 6, 7] ((tI 44 (IntKind.i64.wrap (x42 - 1))) :: (tI 41 x_v11) :: (tS 40 a_room room.length c_room) :: (tI 10 x_v11) :: (K53m7 x_v11 room a_l l c_l)) gc (PlOk.peek (PlOk.peek br.plOk br 1 9 rfl rfl bp [.int .i64 x37] (b7 _)) br 1 10 rfl rfl dj [.int .i64 x42] (fo _)) (by kernel_rfl) fun jn gd => ?_
       obtain ⟨x45, ex45, a⟩ := bnd a
       obtain ⟨dv, d2, ii⟩ := idx_some ex45
       have cw := lt_of_idx dv d2
       obtain ⟨i2, ia, fp⟩ := cells_get (sz := 1) rfl ax ii
       obtain rfl := ia
       obtain ⟨x, dk⟩ := row_addr br (i := 1) rfl (b0 := 0 + (x_v11 : Int).toNat * 1) (Nat.lt_of_lt_of_le (Nat.lt_add_of_pos_right (by decide)) (cells_fit (sz := 1) rfl ax cw))
       have hg := br.addPlc (b := x) (o := 0 + (x_v11 : Int).toNat * 1) (cs := []) (fun j c hj => by simp at hj) rfl (by kernel_rfl) (by kernel_rfl)
       have i5 : ∀ (e : Env) k c, ([.int .i64 x45] : List SC)[k]? = some c → (aq)[0 + (x_v11 : Int).toNat * 1 + k]? = some (c.den e) := fun e k c hk => fp k _ (map_get hk)
       have d3 := d2
       rw [be] at d3
       refine R_index 5 (x_v11) rfl rfl (rfl) rfl (by decide) gd (by rfl) (by rfl) (by rfl) dk (by rfl) dv d3 (by kernel_rfl) fun ec (gf : Kn 59 (K53e4 b_found b_many b_best b_room b_y b_worst b_park b_breaks b_known s x_v11 u x) ((tP 45 11 0) :: (tI 44 (IntKind.i64.wrap (x42 - 1))) :: (tI 41 x_v11) :: (tS 40 a_room room.length c_room) :: (tI 10 x_v11) :: (K53m7 x_v11 room a_l l c_l)) ec) => ?_
       obtain ⟨a2, ei, a⟩ := bnd a
       obtain ⟨ja, jc, d8⟩ := upd_some ei
       refine wl fun K hK => ?_
       refine wp_storeRow 1 11 0 (0 + (x_v11 : Int).toNat * 1) (.c (.int .i64 (IntKind.i64.wrap (x42 - 1)))) gf hg rfl rfl (by rfl) (by rfl) rfl rfl dk rfl (by kernel_rfl) (cells_fit (sz := 1) rfl ax cw) fun j4 gg cb => ?_
       have fq : Cells al a2 (aq.take (0 + (x_v11 : Int).toNat * 1 + 0) ++ ([.int .i64 (IntKind.i64.wrap (x42 - 1))] : List Value) ++ aq.drop (0 + (x_v11 : Int).toNat * 1 + 0 + 1)) := by rw [d8]; exact cells_set (sz := 1) rfl ax cw (rep_int : rep al (IntKind.i64.wrap (x42 - 1) : Int) _)
       have ce : a2.length = room.length := by rw [d8]; simp [be]
       refine hK _ _ ?_
       have gh : Kn 59 (K53e4 b_found b_many b_best b_room b_y b_worst b_park b_breaks b_known s x_v11 u x) ((tI 10 x_v11) :: (K53m7 x_v11 room a_l l c_l)) ec := gg.kp
       refine wf (wp_seq (wp_region_G (by kernel_rfl) ?_))
       replace cb := cb.drew
       refine wpG_of_D [] (K53e4 b_found b_many b_best b_room b_y b_worst b_park b_breaks b_known s x_v11 u x) [⟨[.bool x_v12], some 4⟩, ⟨[.int .i64 x_v13], some 3⟩, ⟨[.slice a3 x_v14.length a4], some 22⟩, ⟨[.slice a_room room.length c_room], some 22⟩, ⟨(K53c1 d y g f m), none⟩, ⟨(K53c3 b_breaks b_y b_known b_found b_many), none⟩, ⟨(K53c5 b_y b_worst b_found b_many b_best b_room b_park), none⟩, ⟨[.slice p breaks.length q], none⟩, ⟨[.map (some bm_known)], none⟩, ⟨[], none⟩, ⟨[], none⟩, ⟨[], none⟩] ?_
       refine Dr [0, 1, 2] [2, 1, 0] (K53m8 x_v11 a_l l c_l b_y b_worst b_found b_many b_best b_room b_park room) gh cb fun jo gi => ?_
       refine Dl 3 fun K hK => ?_
       refine wS 3 1 [.int .i64 x_v11] gi cb fun au iq j5 (gj : Kn 59 (K53e4 b_found b_many b_best b_room b_y b_worst b_park b_breaks b_known s x_v11 u x) ((tS 49 au 1 1) :: (K53m8 x_v11 a_l l c_l b_y b_worst b_found b_many b_best b_room b_park room)) iq) c1 => ?_
       have cq : Cells al ([x_v11] : List Int) ([.int .i64 x_v11] : List Value) := ⟨_, _, rfl, (rep_int : rep al (x_v11 : Int) _), rfl⟩
       refine hK _ _ c1.plOk ?_
       obtain ⟨x50, ex50, a⟩ := bnd a
       obtain ⟨c6, g8⟩ := app_some ex50
       refine Dl 4 fun K hK => ?_
       refine wp_appendK 0 8 1 _ (x50.length) _ ([.int .i64 x_v11] : List Value) gj c1 rfl rfl (by decide) rfl rfl (by rfl) (by kernel_rfl) (by rfl) (by rfl) (Cells.len cq) (c1.rowCell (i := 2) rfl) cq.one (by rw [c6]; simp <;> omega) (by rw [c6]; exact g8) (by decide) fun ay az c7 ed iw en (gk : Kn 59 [(b_found, 0), (b_many, 0), (b_best, 0), (b_room, 0), (b_y, 0), (b_worst, 0), (b_park, 0), (b_breaks, 0), (b_known, 0), (s, 0 + (x_v11 : Int).toNat * 1), (u, 0 + (x_v11 : Int).toNat * 1), (x, 0 + (x_v11 : Int).toNat * 1)] [(50, .one (.c (.slice ay x50.length az))), (49, .one (.c (.slice au 1 1))), (48, .one (.c (.int .i64 x_v11))), (47, .one (.c (.slice a_l l.length c_l))), (46, .one (.c (.func (.func 53) #[] #[.pointer (some ⟨b_y, 0, none⟩), .pointer (some ⟨b_worst, 0, none⟩), .pointer (some ⟨b_found, 0, none⟩), .pointer (some ⟨b_many, 0, none⟩), .pointer (some ⟨b_best, 0, none⟩), .pointer (some ⟨b_room, 0, none⟩), .pointer (some ⟨b_park, 0, none⟩)]))), (10, .one (.c (.int .i64 x_v11))), (32, .one (.c (.int .i64 x_v11))), (31, .one (.c (.int .i64 ((room.length : Nat) : Int)))), (0, .one (.c (.slice a_l l.length c_l))), (6, .one (.c (.ptr 3 0))), (7, .one (.c (.ptr 6 0)))] ed) dr => ?_
       have fr : Cells al x50 (vs_l ++ ([.int .i64 x_v11] : List Value)) := by rw [c6]; exact Cells.append hc_l cq
       refine hK _ _ dr.plOk ?_
       have gl : Kn 59 (K53e4 b_found b_many b_best b_room b_y b_worst b_park b_breaks b_known s x_v11 u x) ((tS 50 ay x50.length az) :: (tS 49 au 1 1) :: (K53m8 x_v11 a_l l c_l b_y b_worst b_found b_many b_best b_room b_park room)) ed := gk
       have hh : Mem (Fr.put F bm_known (some (.map bb a9))) al [(b_found, 0), (b_many, 0), (b_best, 0), (b_room, 0), (b_y, 0), (b_worst, 0), (b_park, 0), (b_breaks, 0), (b_known, 0), (s, 0 + (x_v11 : Int).toNat * 1), (u, 0 + (x_v11 : Int).toNat * 1), (x, 0 + (x_v11 : Int).toNat * 1)] [⟨[.bool x_v12], some 4⟩, ⟨[.int .i64 x_v13], some 3⟩, ⟨[.slice a3 x_v14.length a4], some 22⟩, ⟨[.slice a_room a2.length c_room], some 22⟩, ⟨[.slice d y.room.length g, .slice f y.buses.length m, .int .i64 y.broken], none⟩, ⟨[.func (.func 49) #[] #[.pointer (some ⟨b_breaks, 0, none⟩), .pointer (some ⟨b_y, 0, none⟩), .pointer (some ⟨b_known, 0, none⟩), .pointer (some ⟨b_found, 0, none⟩), .pointer (some ⟨b_many, 0, none⟩)]], none⟩, ⟨[.func (.func 53) #[] #[.pointer (some ⟨b_y, 0, none⟩), .pointer (some ⟨b_worst, 0, none⟩), .pointer (some ⟨b_found, 0, none⟩), .pointer (some ⟨b_many, 0, none⟩), .pointer (some ⟨b_best, 0, none⟩), .pointer (some ⟨b_room, 0, none⟩), .pointer (some ⟨b_park, 0, none⟩)]], none⟩, ⟨[.slice p breaks.length q], none⟩, ⟨[.map (some bm_known)], none⟩, ⟨[], none⟩, ⟨[], none⟩, ⟨[], none⟩] [⟨ay, x50.length, az, 3, 1, (vs_l ++ ([.int .i64 x_v11] : List Value)), 0⟩, ⟨a_room, a2.length, c_room, 3, 1, (aq.take (0 + (x_v11 : Int).toNat * 1 + 0) ++ ([.int .i64 (IntKind.i64.wrap (x42 - 1))] : List Value) ++ aq.drop (0 + (x_v11 : Int).toNat * 1 + 0 + 1)), 0⟩, ⟨au, 1, 1, 3, 1, ([.int .i64 x_v11] : List Value), 0⟩, c7] iw := by rw [ce]; exact dr
       refine D_ext (e' := [(b_found, 0), (b_many, 0), (b_best, 0), (b_room, 0), (b_y, 0), (b_worst, 0), (b_park, 0), (b_breaks, 0), (b_known, 0), (s, 0 + (x_v11 : Int).toNat * 1), (u, 0 + (x_v11 : Int).toNat * 1), (x, 0 + (x_v11 : Int).toNat * 1)]) (pl' := [⟨[.bool x_v12], some 4⟩, ⟨[.int .i64 x_v13], some 3⟩, ⟨[.slice a3 x_v14.length a4], some 22⟩, ⟨[.slice a_room a2.length c_room], some 22⟩, ⟨[.slice d y.room.length g, .slice f y.buses.length m, .int .i64 y.broken], none⟩, ⟨[.func (.func 49) #[] #[.pointer (some ⟨b_breaks, 0, none⟩), .pointer (some ⟨b_y, 0, none⟩), .pointer (some ⟨b_known, 0, none⟩), .pointer (some ⟨b_found, 0, none⟩), .pointer (some ⟨b_many, 0, none⟩)]], none⟩, ⟨[.func (.func 53) #[] #[.pointer (some ⟨b_y, 0, none⟩), .pointer (some ⟨b_worst, 0, none⟩), .pointer (some ⟨b_found, 0, none⟩), .pointer (some ⟨b_many, 0, none⟩), .pointer (some ⟨b_best, 0, none⟩), .pointer (some ⟨b_room, 0, none⟩), .pointer (some ⟨b_park, 0, none⟩)]], none⟩, ⟨[.slice p breaks.length q], none⟩, ⟨[.map (some bm_known)], none⟩, ⟨[], none⟩, ⟨[], none⟩, ⟨[], none⟩]) (fun _ hp => PlOk.same (by rw [ce] at hp; exact hp) rfl) ?_
       obtain ⟨x51, ex51, a⟩ := bnd a
       obtain ⟨iy, es, g9, h3⟩ := hh.lend1 bm_known (Fr.put_X _ _ _) [0, 1, 2, 3] [0, 1] (by kernel_rfl) (by kernel_rfl) (by kernel_rfl) (by kernel_rfl)
       refine D_sync 5 rfl (by kernel_rfl) (by decide) (rfl) (by kernel_rfl) fun K hK => ?_
       refine wp_callVM (.func (.func 53) #[] #[.pointer (some ⟨b_y, 0, none⟩), .pointer (some ⟨b_worst, 0, none⟩), .pointer (some ⟨b_found, 0, none⟩), .pointer (some ⟨b_many, 0, none⟩), .pointer (some ⟨b_best, 0, none⟩), .pointer (some ⟨b_room, 0, none⟩), .pointer (some ⟨b_park, 0, none⟩)]) [.c (.slice ay x50.length az)] _ gl rfl rfl (by decide) (by rfl) (by rfl) rfl ⟨53, _, _, rfl, fun _ _ => by kernel_rfl, ih bt (by omega) _ _ _ _ _ _ _ _ _ _ _ _ x50 _ _ _ fr x_v12 x_v13 x_v14 _ _ c5 a2 _ _ _ fq y hb_y hc_worst hc_park breaks hb_breaks x_v15 _ _ _ hc_known (es _ _ (Fr.put_X _ _ _)) cj g9 _ ex51⟩ fun jy ch ep => ?_
       obtain ⟨bc, bh, bj, ar, bm, bk, cz, rfl, h0, hs, bd, el, hi⟩ := ep
       have cc := h3 _ _ _ _ [⟨ay, x50.length, az, 3, 1, (vs_l ++ ([.int .i64 x_v11] : List Value)), 0⟩, ⟨a_room, a2.length, c_room, 3, 1, ar, 0⟩] cz rfl (Nat.le_of_ble_eq_true rfl) (by kernel_rfl) hi
       rw [Fr.put_put] at cc
       replace cc : Mem (Fr.put F bm_known (some (.map bm bk))) bc [(b_found, 0), (b_many, 0), (b_best, 0), (b_room, 0), (b_y, 0), (b_worst, 0), (b_park, 0), (b_breaks, 0), (b_known, 0), (s, 0 + (x_v11 : Int).toNat * 1), (u, 0 + (x_v11 : Int).toNat * 1), (x, 0 + (x_v11 : Int).toNat * 1)] [⟨[.bool x51.1], some 4⟩, ⟨[.int .i64 x51.2.1], some 3⟩, ⟨[.slice bh x51.2.2.1.length bj], some 22⟩, ⟨[.slice a_room a2.length c_room], some 22⟩, ⟨[.slice d y.room.length g, .slice f y.buses.length m, .int .i64 y.broken], none⟩, ⟨[.func (.func 49) #[] #[.pointer (some ⟨b_breaks, 0, none⟩), .pointer (some ⟨b_y, 0, none⟩), .pointer (some ⟨b_known, 0, none⟩), .pointer (some ⟨b_found, 0, none⟩), .pointer (some ⟨b_many, 0, none⟩)]], none⟩, ⟨[.func (.func 53) #[] #[.pointer (some ⟨b_y, 0, none⟩), .pointer (some ⟨b_worst, 0, none⟩), .pointer (some ⟨b_found, 0, none⟩), .pointer (some ⟨b_many, 0, none⟩), .pointer (some ⟨b_best, 0, none⟩), .pointer (some ⟨b_room, 0, none⟩), .pointer (some ⟨b_park, 0, none⟩)]], none⟩, ⟨[.slice p breaks.length q], none⟩, ⟨[.map (some bm_known)], none⟩, ⟨[], none⟩, ⟨[], none⟩, ⟨[], none⟩] [⟨ay, x50.length, az, 3, 1, (vs_l ++ ([.int .i64 x_v11] : List Value)), 0⟩, ⟨a_room, a2.length, c_room, 3, 1, ar, 0⟩, ⟨au, 1, 1, 3, 1, ([.int .i64 x_v11] : List Value), 0⟩, c7] ch := cc
       refine ⟨.tup [], rfl, fun da (gm : Kn 59 (K53e4 b_found b_many b_best b_room b_y b_worst b_park b_breaks b_known s x_v11 u x) ((51, .tup []) :: (tS 50 ay x50.length az) :: (tS 49 au 1 1) :: (K53m8 x_v11 a_l l c_l b_y b_worst b_found b_many b_best b_room b_park room)) da) => hK _ _ ?_⟩
       have gn : Kn 59 (K53e4 b_found b_many b_best b_room b_y b_worst b_park b_breaks b_known s x_v11 u x) ((51, .tup []) :: (tS 50 ay x50.length az) :: (tS 49 au 1 1) :: (K53m8 x_v11 a_l l c_l b_y b_worst b_found b_many b_best b_room b_park room)) da := gm
       have hl : Mem (Fr.put F bm_known (some (.map bm bk))) bc [(b_found, 0), (b_many, 0), (b_best, 0), (b_room, 0), (b_y, 0), (b_worst, 0), (b_park, 0), (b_breaks, 0), (b_known, 0), (s, 0 + (x_v11 : Int).toNat * 1), (u, 0 + (x_v11 : Int).toNat * 1), (x, 0 + (x_v11 : Int).toNat * 1)] [⟨[.bool x51.1], some 4⟩, ⟨[.int .i64 x51.2.1], some 3⟩, ⟨[.slice bh x51.2.2.1.length bj], some 22⟩, ⟨[.slice a_room room.length c_room], some 22⟩, ⟨[.slice d y.room.length g, .slice f y.buses.length m, .int .i64 y.broken], none⟩, ⟨[.func (.func 49) #[] #[.pointer (some ⟨b_breaks, 0, none⟩), .pointer (some ⟨b_y, 0, none⟩), .pointer (some ⟨b_known, 0, none⟩), .pointer (some ⟨b_found, 0, none⟩), .pointer (some ⟨b_many, 0, none⟩)]], none⟩, ⟨[.func (.func 53) #[] #[.pointer (some ⟨b_y, 0, none⟩), .pointer (some ⟨b_worst, 0, none⟩), .pointer (some ⟨b_found, 0, none⟩), .pointer (some ⟨b_many, 0, none⟩), .pointer (some ⟨b_best, 0, none⟩), .pointer (some ⟨b_room, 0, none⟩), .pointer (some ⟨b_park, 0, none⟩)]], none⟩, ⟨[.slice p breaks.length q], none⟩, ⟨[.map (some bm_known)], none⟩, ⟨[], none⟩, ⟨[], none⟩, ⟨[], none⟩] [⟨ay, x50.length, az, 3, 1, (vs_l ++ ([.int .i64 x_v11] : List Value)), 0⟩, ⟨a_room, room.length, c_room, 3, 1, ar, 0⟩, ⟨au, 1, 1, 3, 1, ([.int .i64 x_v11] : List Value), 0⟩, c7] ch := by rw [← ce]; exact cc
       have c4 := hs.trans ce
       have go : Kn 59 (K53e4 b_found b_many b_best b_room b_y b_worst b_park b_breaks b_known s x_v11 u x) ((tI 10 x_v11) :: (K53m7 x_v11 room a_l l c_l)) da := gn.kp
       refine wpG_end (by kernel_rfl) ?_
       have hn : Mem (Fr.put F bm_known (some (.map bm bk))) bc (K53e4 b_found b_many b_best b_room b_y b_worst b_park b_breaks b_known s x_v11 u x) [⟨[.bool x51.1], some 4⟩, ⟨[.int .i64 x51.2.1], some 3⟩, ⟨[.slice bh x51.2.2.1.length bj], some 22⟩, ⟨[.slice a_room room.length c_room], some 22⟩, ⟨(K53c1 d y g f m), none⟩, ⟨(K53c3 b_breaks b_y b_known b_found b_many), none⟩, ⟨(K53c5 b_y b_worst b_found b_many b_best b_room b_park), none⟩, ⟨[.slice p breaks.length q], none⟩, ⟨[.map (some bm_known)], none⟩, ⟨[], none⟩, ⟨[], none⟩, ⟨[], none⟩] [⟨a_l, l.length, c_l, 3, 1, vs_l, 0⟩, ⟨a_room, room.length, c_room, 3, 1, ar, 0⟩, ⟨au, 1, 1, 3, 1, ([.int .i64 x_v11] : List Value), 0⟩, ⟨none, 0, 0, 3, 1, [], 0⟩] ch := Mem.unkeep (i := 0) (k := 3) hl rfl rfl (by decide) en rfl rfl ⟨_, rfl⟩
       have c2 : Mem (Fr.put F bm_known (some (.map bm bk))) bc (K53e4 b_found b_many b_best b_room b_y b_worst b_park b_breaks b_known s x_v11 u x) [⟨[.bool x51.1], some 4⟩, ⟨[.int .i64 x51.2.1], some 3⟩, ⟨[.slice bh x51.2.2.1.length bj], some 22⟩, ⟨[.slice a_room room.length c_room], some 22⟩, ⟨(K53c1 d y g f m), none⟩, ⟨(K53c3 b_breaks b_y b_known b_found b_many), none⟩, ⟨(K53c5 b_y b_worst b_found b_many b_best b_room b_park), none⟩, ⟨[.slice p breaks.length q], none⟩, ⟨[.map (some bm_known)], none⟩, ⟨[], none⟩, ⟨[], none⟩, ⟨[], none⟩] [⟨a_l, l.length, c_l, 3, 1, vs_l, 0⟩, ⟨a_room, room.length, c_room, 3, 1, ar, 0⟩, ⟨au, 1, 1, 3, 1, ([.int .i64 x_v11] : List Value), 0⟩] ch := hn.cutRw 3
       have i6 := hc_l.mono cz
       refine wp_region_from (Rk 0 2 ((tI 53 x_v11) :: (tS 52 a_room room.length c_room) :: (K53m7 x_v11 room a_l l c_l)) go c2 fun jp gp => ?_)
       obtain ⟨x54, ex54, a⟩ := bnd a
       obtain ⟨dw, d4, ij⟩ := idx_some ex54
       have ha := lt_of_idx dw d4
       obtain ⟨i3, ib, fs⟩ := cells_get (sz := 1) rfl bd ij
       obtain rfl := ib
       obtain ⟨bz, dl⟩ := row_addr c2 (i := 1) rfl (b0 := 0 + (x_v11 : Int).toNat * 1) (Nat.lt_of_lt_of_le (Nat.lt_add_of_pos_right (by decide)) (cells_fit (sz := 1) rfl bd ha))
       have cd := c2.addPlc (b := bz) (o := 0 + (x_v11 : Int).toNat * 1) (cs := []) (fun j c hj => by simp at hj) rfl (by kernel_rfl) (by kernel_rfl)
       have ft : ∀ (e : Env) k c, ([.int .i64 x54] : List SC)[k]? = some c → (ar)[0 + (x_v11 : Int).toNat * 1 + k]? = some (c.den e) := fun e k c hk => fs k _ (map_get hk)
       have d5 := d4
       rw [c4] at d5
       refine R_index 2 (x_v11) rfl rfl (rfl) rfl (by decide) gp (by rfl) (by rfl) (by rfl) dl (by rfl) dw d5 (by kernel_rfl) fun ir (gq : Kn 59 [(b_found, 0), (b_many, 0), (b_best, 0), (b_room, 0), (b_y, 0), (b_worst, 0), (b_park, 0), (b_breaks, 0), (b_known, 0), (s, 0 + (x_v11 : Int).toNat * 1), (u, 0 + (x_v11 : Int).toNat * 1), (x, 0 + (x_v11 : Int).toNat * 1), (bz, 0 + (x_v11 : Int).toNat * 1)] ((tP 54 12 0) :: (tI 53 x_v11) :: (tS 52 a_room room.length c_room) :: (K53m7 x_v11 room a_l l c_l)) ir) => ?_
       refine R_runk 3 2 [56, 53, 52, 32, 31, 0, 6, 7] ((tI 56 (IntKind.i64.wrap (x54 + 1))) :: (tI 53 x_v11) :: (tS 52 a_room room.length c_room) :: (K53m7 x_v11 room a_l l c_l)) gq (PlOk.peek cd.plOk cd 1 12 rfl rfl dl [.int .i64 x54] (ft _)) (by kernel_rfl) fun jq gr => ?_
       obtain ⟨x57, ex57, a⟩ := bnd a
       obtain ⟨dx, d6, ik⟩ := idx_some ex57
       have cx := lt_of_idx dx d6
       obtain ⟨i4, ic, fu⟩ := cells_get (sz := 1) rfl bd ik
       obtain rfl := ic
       obtain ⟨ci, dm⟩ := row_addr cd (i := 1) rfl (b0 := 0 + (x_v11 : Int).toNat * 1) (Nat.lt_of_lt_of_le (Nat.lt_add_of_pos_right (by decide)) (cells_fit (sz := 1) rfl bd cx))
       have ho := cd.addPlc (b := ci) (o := 0 + (x_v11 : Int).toNat * 1) (cs := []) (fun j c hj => by simp at hj) rfl (by kernel_rfl) (by kernel_rfl)
       have i7 : ∀ (e : Env) k c, ([.int .i64 x57] : List SC)[k]? = some c → (ar)[0 + (x_v11 : Int).toNat * 1 + k]? = some (c.den e) := fun e k c hk => fu k _ (map_get hk)
       have d7 := d6
       rw [c4] at d7
       refine R_index 5 (x_v11) rfl rfl (rfl) rfl (by decide) gr (by rfl) (by rfl) (by rfl) dm (by rfl) dx d7 (by kernel_rfl) fun ee (gs : Kn 59 [(b_found, 0), (b_many, 0), (b_best, 0), (b_room, 0), (b_y, 0), (b_worst, 0), (b_park, 0), (b_breaks, 0), (b_known, 0), (s, 0 + (x_v11 : Int).toNat * 1), (u, 0 + (x_v11 : Int).toNat * 1), (x, 0 + (x_v11 : Int).toNat * 1), (bz, 0 + (x_v11 : Int).toNat * 1), (ci, 0 + (x_v11 : Int).toNat * 1)] ((tP 57 13 0) :: (tI 56 (IntKind.i64.wrap (x54 + 1))) :: (tI 53 x_v11) :: (tS 52 a_room room.length c_room) :: (K53m7 x_v11 room a_l l c_l)) ee) => ?_
       obtain ⟨dd, ej, a⟩ := bnd a
       obtain ⟨jb, jd, d9⟩ := upd_some ej
       refine wl fun K hK => ?_
       refine wp_storeRow 1 13 0 (0 + (x_v11 : Int).toNat * 1) (.c (.int .i64 (IntKind.i64.wrap (x54 + 1)))) gs ho rfl rfl (by rfl) (by rfl) rfl rfl dm rfl (by kernel_rfl) (cells_fit (sz := 1) rfl bd cx) fun j6 gu ds => ?_
       have fv : Cells bc dd (ar.take (0 + (x_v11 : Int).toNat * 1 + 0) ++ ([.int .i64 (IntKind.i64.wrap (x54 + 1))] : List Value) ++ ar.drop (0 + (x_v11 : Int).toNat * 1 + 0 + 1)) := by rw [d9]; exact cells_set (sz := 1) rfl bd cx (rep_int : rep bc (IntKind.i64.wrap (x54 + 1) : Int) _)
       have ht : dd.length = room.length := by rw [d9]; simp [c4]
       refine hK _ _ ?_
       have gv : Kn 59 [(b_found, 0), (b_many, 0), (b_best, 0), (b_room, 0), (b_y, 0), (b_worst, 0), (b_park, 0), (b_breaks, 0), (b_known, 0), (s, 0 + (x_v11 : Int).toNat * 1), (u, 0 + (x_v11 : Int).toNat * 1), (x, 0 + (x_v11 : Int).toNat * 1), (bz, 0 + (x_v11 : Int).toNat * 1), (ci, 0 + (x_v11 : Int).toNat * 1)] (K53m7 x_v11 room a_l l c_l) ee := gu.kp
       refine wf (wp_region_from (Rk 0 2 [(tI 32 (IntKind.i64.wrap (x_v11 + 1))), (tI 31 ((room.length : Nat) : Int)), (tS 0 a_l l.length c_l), (tP 6 3 0), (tP 7 6 0)] gv ds fun jr gw => ?_))
       refine wf ?_
       exact Exists.intro bt ⟨Nat.lt_succ_self _, Exists.intro dd ⟨(IntKind.i64.wrap (x_v11 + 1)), x51.1, x51.2.1, x51.2.2.1, x51.2.2.2.2, (ar.take (0 + (x_v11 : Int).toNat * 1 + 0) ++ ([.int .i64 (IntKind.i64.wrap (x54 + 1))] : List Value) ++ ar.drop (0 + (x_v11 : Int).toNat * 1 + 0 + 1)), bh, bj, bm, bk, _, _, rfl, ((gw.keep [32, 31, 0, 6, 7] (by rfl)).cut 9 (by kernel_rfl)), ((ds.cutRw 2).cutPl 9 (by kernel_rfl)), (Heap.le_trans am cz), fv, ht, h0, el, (by omega), a⟩⟩
      ·
       rw [cn, cond_false] at a
       refine wp_skip (wp_region_from (R_runk 0 2 [32, 31, 0, 6, 7] [(tI 32 (IntKind.i64.wrap (x_v11 + 1))), (tI 31 ((room.length : Nat) : Int)), (tS 0 a_l l.length c_l), (tP 6 3 0), (tP 7 6 0)] cu (PlOk.peek a1.plOk a1 1 9 rfl rfl bp [.int .i64 x37] (b7 _)) (by kernel_rfl) fun js gx => ?_))
       refine wf ?_
       exact Exists.intro bt ⟨Nat.lt_succ_self _, Exists.intro x_v10 ⟨(IntKind.i64.wrap (x_v11 + 1)), x_v12, x_v13, x_v14, x_v15, aq, a3, a4, bb, a9, _, _, rfl, ((gx.keep [32, 31, 0, 6, 7] (by rfl)).cut 9 (by kernel_rfl)), (a1.cutPl 9 (by kernel_rfl)), am, ax, be, c5, cj, (by omega), a⟩⟩
     ·
      rw [cm, cond_false] at a
      refine wp_exit ?_
      obtain rfl := Option.some.inj a
      exact Exists.intro aq ⟨a3, a4, bb, a9, _, _, rfl, ct.kp, bf, am, ax, be, c5, cj⟩
   ·
    rintro _ j7 ⟨cg, bw, b1, b5, b3, c8, a6, rfl, i8, hq, hc, fl, g5, hz, ek⟩
    obtain rfl := Option.some.inj H
    exact endM_of rfl ⟨a6, bw, b1, cg, b5, b3, hc, rfl, hz, g5, fl, ek, ((hq.cutRw 2).cutPl 4 (by kernel_rfl))⟩
theorem lane_Best_2_ok (n : Nat) {F : Fr} {h : Heap} {w : World} {b_y b_worst b_found b_many b_best b_room b_park b_breaks b_known : Nat} (l : List Int) {a_l : Option Addr} {c_l : Nat} {vs_l : List Value} (hc_l : Cells h l vs_l) (found : Bool) (many : Int) (best : List Int) {z : Option Addr} {aa : Nat} (ab : RepS h z aa best) (room : List Int) {a_room : Option Addr} {c_room : Nat} {vs_room : List Value} (hc_room : Cells h room vs_room) (y : Yard) (hb_y : BoxS h b_y y) (hc_worst : CellsAt h b_worst [.func (.func 49) #[] #[.pointer (some ⟨b_breaks, 0, none⟩), .pointer (some ⟨b_y, 0, none⟩), .pointer (some ⟨b_known, 0, none⟩), .pointer (some ⟨b_found, 0, none⟩), .pointer (some ⟨b_many, 0, none⟩)]]) (hc_park : CellsAt h b_park [.func (.func 53) #[] #[.pointer (some ⟨b_y, 0, none⟩), .pointer (some ⟨b_worst, 0, none⟩), .pointer (some ⟨b_found, 0, none⟩), .pointer (some ⟨b_many, 0, none⟩), .pointer (some ⟨b_best, 0, none⟩), .pointer (some ⟨b_room, 0, none⟩), .pointer (some ⟨b_park, 0, none⟩)]]) (breaks : List Some) (hb_breaks : BoxS h b_breaks breaks) (known : List (Key × Int)) {bm_known : Nat} {es_known : Array MapEntry} {cl_known : Nat} (hc_known : CellsAt h b_known [.map (some bm_known)]) (hX_known : F.X bm_known = some (.map es_known cl_known)) (hE_known : Ents h es_known.toList cl_known known) (hm : Mem F h [(b_found, 0), (b_many, 0), (b_best, 0), (b_room, 0)] [⟨[.bool found], some 4⟩, ⟨[.int .i64 many], some 3⟩, ⟨[.slice z best.length aa], some 22⟩, ⟨[.slice a_room room.length c_room], some 22⟩] [⟨a_l, l.length, c_l, 3, 1, vs_l, 0⟩, ⟨a_room, room.length, c_room, 3, 1, vs_room, 0⟩] w) {r : Bool × Int × (List Int) × (List Int) × (List (Key × Int))} (H : lane_Best_2 n l found many best room y breaks known = some r) :
  Calls Try.prog 53 #[.slice a_l l.length c_l, .pointer (some ⟨b_y, 0, none⟩), .pointer (some ⟨b_worst, 0, none⟩), .pointer (some ⟨b_found, 0, none⟩), .pointer (some ⟨b_many, 0, none⟩), .pointer (some ⟨b_best, 0, none⟩), .pointer (some ⟨b_room, 0, none⟩), .pointer (some ⟨b_park, 0, none⟩)] w (RetM fun v w' => ∃ (h' : Heap) (bg : Option Addr) (bi : Nat) (bv : List Value) (bn : Array MapEntry) (bl : Nat), Heap.le h h' ∧ (v = .tuple #[]) ∧ RepS h' bg bi r.2.2.1 ∧ r.2.2.2.1.length = room.length ∧ Cells h' r.2.2.2.1 bv ∧ Ents h' bn.toList bl r.2.2.2.2 ∧ Mem (Fr.put F bm_known (some (.map bn bl))) h' [(b_found, 0), (b_many, 0), (b_best, 0), (b_room, 0)] [⟨[.bool r.1], some 4⟩, ⟨[.int .i64 r.2.1], some 3⟩, ⟨[.slice bg r.2.2.1.length bi], some 22⟩, ⟨[.slice a_room room.length c_room], some 22⟩] [⟨a_l, l.length, c_l, 3, 1, vs_l, 0⟩, ⟨a_room, room.length, c_room, 3, 1, bv, 0⟩] w') := lane_Best_2_rec n F h w b_y b_worst b_found b_many b_best b_room b_park b_breaks b_known l a_l c_l vs_l hc_l found many best z aa ab room a_room c_room vs_room hc_room y hb_y hc_worst hc_park breaks hb_breaks known bm_known es_known cl_known hc_known hX_known hE_known hm r H
abbrev K23e1 (b d g j k f l : Nat) : Env := [(b, 0), (d, 0), (g, 0), (j, 0), (k, 0), (f, 0), (l, 0)]
abbrev K23c2 (p : Option Addr) (y : Yard) (q : Nat) (s : Option Addr) (x : Nat) : List SC := [.slice p y.room.length q, .slice s y.buses.length x, .int .i64 y.broken]
abbrev K23e3 (b d g j k f l m o : Nat) : Env := [(b, 0), (d, 0), (g, 0), (j, 0), (k, 0), (f, 0), (l, 0), (m, 0), (o, 0)]
abbrev K23c4 (g b l f d : Nat) : List SC := [.func (.func 49) #[] #[.pointer (some ⟨g, 0, none⟩), .pointer (some ⟨b, 0, none⟩), .pointer (some ⟨l, 0, none⟩), .pointer (some ⟨f, 0, none⟩), .pointer (some ⟨d, 0, none⟩)]]
abbrev K23c5 (b m f d j k o : Nat) : List SC := [.func (.func 53) #[] #[.pointer (some ⟨b, 0, none⟩), .pointer (some ⟨m, 0, none⟩), .pointer (some ⟨f, 0, none⟩), .pointer (some ⟨d, 0, none⟩), .pointer (some ⟨j, 0, none⟩), .pointer (some ⟨k, 0, none⟩), .pointer (some ⟨o, 0, none⟩)]]
abbrev K23m6 : TM := [(tP 3 1 0), (tP 1 0 0)]
abbrev K23m7 : TM := (tP 9 5 0) :: (tP 8 4 0) :: (tP 7 3 0) :: (tP 6 2 0) :: K23m6
set_option maxRecDepth 100000 in
set_option maxHeartbeats 4000000 in
theorem lane_Best_ok (n : Nat) {h : Heap} {w : World} (hh : Has h w) (y : Yard) {cs_y : List Value} (hx_y : rep h y cs_y) {r : (List Int) × Int × Int} (H : lane_Best n y = some r) :
  Calls Try.prog 23 #[.agg cs_y.toArray] w (Ret (fun h v => ∃ v0 v1 v2, v = .tuple #[v0, v1, v2] ∧ (∃ a c, v0 = .slice a r.1.length c ∧ RepS h a c r.1) ∧ (v1 = .int .i64 r.2.1) ∧ (v2 = .int .i64 r.2.2)) h w) := by
 obtain ⟨_, _, rfl, ⟨p, q, rfl, ad⟩, ⟨_, _, rfl, ⟨s, x, rfl, ak⟩, rfl⟩⟩ := hx_y
 refine enter 32 [.agg (K23c2 p y q s x)] Try.func23 rfl rfl rfl rfl fun t hk => ?_
 have hm := Mem.begin h w hh
 unfold lane_Best at H
 refine wp_seq (wp_region_from (wl fun K hK => ?_))
 refine wb (.agg (K23c2 p y q s x)) hk hm fun b ek fv (cg : Kn 32 [(b, 0)] [(tP 1 0 0), (tA 0 (K23c2 p y q s x))] ek) bt => hK _ _ ?_
 refine Rk 1 1 [(tP 1 0 0)] cg bt fun ey cm => ?_
 refine wl fun K hK => ?_
 refine wa [.int .i64 0] cm bt fun d eg fl (cx : Kn 32 [(b, 0), (d, 0)] K23m6 eg) au => hK _ _ ?_
 refine Rk 3 1 K23m6 cx au fun e0 c1 => ?_
 refine wf (wp_seq (wp_seq (wp_region_from (Rk 0 1 ((tA 13 (K23c2 p y q s x)) :: K23m6) c1 au fun e4 c8 => ?_))))
 obtain ⟨x14, ex14, H⟩ := bnd H
 refine wl fun K hK => ?_
 refine wc [.agg (K23c2 p y q s x)] c8 au (lane_Yard_check_ok n au.has y ((rep_pair (rep_slice ad) (rep_pair (rep_slice ak) rep_int)) : rep h y _) ex14) fun fe cb fo b6 br aj => ?_
 replace ad := ad.mono br
 replace ak := ak.mono br
 obtain rfl := b6
 refine ⟨.one (.c (.int .i64 x14)), rfl, fun eh (c9 : Kn 32 [(b, 0), (d, 0)] ((tI 14 x14) :: (tA 13 (K23c2 p y q s x)) :: K23m6) eh) => hK _ _ ?_⟩
 refine Rk 2 1 ((tI 5 x14) :: K23m6) c9 aj fun e7 da => ?_
 refine wf (wp_seq (wp_region_from (Rk 0 2 ((tB 16 (x14 != 0)) :: (tI 5 x14) :: K23m6) da aj fun e8 a7 => ?_)))
 refine wf (wC ((x14 != 0)) a7 (fun a1 => ?_) (fun a1 => ?_))
 ·
  rw [a1, cond_true] at H
  refine wp_seq (wp_region_from (Rk 0 2 [(tS 2 none 0 0), (tI 17 x14), (tP 3 1 0)] a7 aj fun e9 db => ?_))
  refine wl fun K hK => ?_
  refine wst 1 0 (.c (.int .i64 0)) [.int .i64 0] db aj fun fp dc bx => hK _ _ ?_
  refine Rk 3 1 [(tI 4 x14), (tS 2 none 0 0), (tP 3 1 0)] dc bx fun fa dd => ?_
  refine wf (wp_ret ?_)
  obtain rfl := Option.some.inj H
  exact rt (.tup [.c (.slice none 0 0), .c (.int .i64 0), .c (.int .i64 x14)]) dd bx ⟨_, _, _, rfl, ⟨_, _, rfl, RepS.nil⟩, rfl, rfl⟩
 ·
  rw [a1, cond_false] at H
  refine wp_skip (wp_seq (wp_region_from (Rk 0 1 ((tA 18 (K23c2 p y q s x)) :: K23m6) a7 aj fun fb de => ?_)))
  obtain ⟨x19, ex19, H⟩ := bnd H
  refine wl fun K hK => ?_
  refine wc [.agg (K23c2 p y q s x)] de aj (lane_Yard_breaks_ok n aj.has y ((rep_pair (rep_slice ad) (rep_pair (rep_slice ak) rep_int)) : rep cb y _) ex19) fun ff et fq b7 bs d3 => ?_
  replace ad := ad.mono bs
  obtain ⟨ab, ac, rfl, bg⟩ := b7
  refine ⟨.one (.c (.slice ab x19.length ac)), rfl, fun ei (df : Kn 32 [(b, 0), (d, 0)] ((tS 19 ab x19.length ac) :: (tA 18 (K23c2 p y q s x)) :: K23m6) ei) => hK _ _ ?_⟩
  refine wl fun K hK => ?_
  refine wa [.slice none 0 0] df d3 fun g b3 fr (dg : Kn 32 [(b, 0), (d, 0), (g, 0)] ((tP 6 2 0) :: (tS 19 ab x19.length ac) :: (tA 18 (K23c2 p y q s x)) :: K23m6) b3) d4 => hK _ _ ?_
  refine wl fun K hK => ?_
  refine wst 2 0 (.c (.slice ab x19.length ac)) [.slice ab x19.length ac] dg d4 fun fs dh d5 => hK _ _ ?_
  have di : Kn 32 [(b, 0), (d, 0), (g, 0)] ((tP 6 2 0) :: K23m6) b3 := dh.kp
  refine wf (wp_seq (wp_region_from (wl fun K hK => ?_)))
  refine wa [.slice none 0 0] di d5 fun j ej ft (dj : Kn 32 [(b, 0), (d, 0), (g, 0), (j, 0)] ((tP 7 3 0) :: (tP 6 2 0) :: K23m6) ej) be => hK _ _ ?_
  refine wf (wp_seq (wp_region_from (Rk 0 2 ((tS 21 p y.room.length q) :: (tP 7 3 0) :: (tP 6 2 0) :: K23m6) dj be fun fc dk => ?_)))
  obtain ⟨x22, ex22, H⟩ := bnd H
  refine wl fun K hK => ?_
  refine wp_callO [.c (.slice p y.room.length q)] _ dk be rfl rfl (by decide) (by rfl) rfl (fun _ _ => by kernel_rfl) (slices_Clone_int_int_own n be.has y.room ad ex22) fun fg ax en ex b8 a8 bf => ?_
  obtain ⟨u, z, ae, rfl, rfl, a3⟩ := b8
  replace bf : Mem ⟨w, h, noX⟩ ax [(b, 0), (d, 0), (g, 0), (j, 0)] [⟨(K23c2 p y q s x), some 33⟩, ⟨[.int .i64 0], some 3⟩, ⟨[.slice ab x19.length ac], some 84⟩, ⟨[.slice none 0 0], some 22⟩] [⟨u, x22.length, z, 3, 1, ae, 0⟩] en := bf
  refine ⟨.one (.c (.slice u x22.length z)), rfl, fun el (dl : Kn 32 [(b, 0), (d, 0), (g, 0), (j, 0)] ((tS 22 u x22.length z) :: (tS 21 p y.room.length q) :: (tP 7 3 0) :: (tP 6 2 0) :: K23m6) el) => hK _ _ ?_⟩
  refine wl fun K hK => ?_
  refine wa [.slice none 0 0] dl bf fun k b4 fu (dm : Kn 32 [(b, 0), (d, 0), (g, 0), (j, 0), (k, 0)] ((tP 8 4 0) :: (tS 22 u x22.length z) :: (tS 21 p y.room.length q) :: (tP 7 3 0) :: (tP 6 2 0) :: K23m6) b4) d6 => hK _ _ ?_
  refine wl fun K hK => ?_
  refine wst 4 0 (.c (.slice u x22.length z)) [.slice u x22.length z] dm d6 fun fw dp d7 => hK _ _ ?_
  have dq : Kn 32 [(b, 0), (d, 0), (g, 0), (j, 0), (k, 0)] ((tP 8 4 0) :: (tP 7 3 0) :: (tP 6 2 0) :: K23m6) b4 := dp.kp
  refine wf (wp_seq (wp_region_from (wl fun K hK => ?_)))
  refine wa [.bool false] dq d7 fun f em fx (dr : Kn 32 [(b, 0), (d, 0), (g, 0), (j, 0), (k, 0), (f, 0)] K23m7 em) d8 => hK _ _ ?_
  refine wl fun K hK => ?_
  refine wst 5 0 (.c (.bool false)) [.bool false] dr d8 fun eo ch du => hK _ _ ?_
  refine wf (wp_seq (wp_region_from (wl fun K hK => ?_)))
  refine wp_makeMap ch du rfl rfl (by decide) fun aa ed es (ci : Kn 32 [(b, 0), (d, 0), (g, 0), (j, 0), (k, 0), (f, 0)] ((23, .one (.c (.map (some aa)))) :: K23m7) ed) (dv : Mem (Fr.put ⟨w, h, noX⟩ aa (some (.map #[] 0))) ax [(b, 0), (d, 0), (g, 0), (j, 0), (k, 0), (f, 0)] [⟨(K23c2 p y q s x), some 33⟩, ⟨[.int .i64 0], some 3⟩, ⟨[.slice ab x19.length ac], some 84⟩, ⟨[.slice none 0 0], some 22⟩, ⟨[.slice u x22.length z], some 22⟩, ⟨[.bool false], some 4⟩] [⟨u, x22.length, z, 3, 1, ae, 0⟩] (World.alloc eo (.map #[] 0))) => ?_
  have aw : Ents ax (#[] : Array MapEntry).toList 0 ([] : List (Key × Int)) := Ents.nil
  refine hK _ _ ?_
  refine wl fun K hK => ?_
  refine wa [.map none] ci dv fun l bz fh (cj : Kn 32 (K23e1 b d g j k f l) ((tP 10 6 0) :: (23, .one (.c (.map (some aa)))) :: K23m7) bz) dw => hK _ _ ?_
  refine wl fun K hK => ?_
  refine wst 6 0 (.c (.map (some aa))) [.map (some aa)] cj dw fun bi ck dx => hK _ _ ?_
  have cl : Kn 32 (K23e1 b d g j k f l) ((tP 10 6 0) :: K23m7) bz := ck.kp
  refine wf (wp_seq (wp_region_from ?_))
  obtain ⟨ao, am, bp, a9⟩ := dx.settlePlc (i := 2) rfl
  replace bg := bg.mono (Heap.le_trans a8 am)
  replace a9 : Mem (Fr.put ⟨w, h, noX⟩ aa (some (.map #[] 0))) ao (K23e1 b d g j k f l) [⟨(K23c2 p y q s x), some 33⟩, ⟨[.int .i64 0], some 3⟩, ⟨[.slice ab x19.length ac], none⟩, ⟨[.slice none 0 0], some 22⟩, ⟨[.slice u x22.length z], some 22⟩, ⟨[.bool false], some 4⟩, ⟨[.map (some aa)], some 86⟩] [⟨u, x22.length, z, 3, 1, ae, 0⟩] bi := a9
  have ay : BoxS ao g (x19 : List Some) := BoxS.of (e := (K23e1 b d g j k f l)) (cs := [.slice ab x19.length ac]) ((rep_slice bg) : rep ao (x19 : List Some) _) rfl bp
  have ev : CellsAt ao g [.slice ab x19.length ac] := CellsAt.of (e := [(b, 0), (d, 0), (g, 0), (j, 0), (k, 0), (f, 0), (l, 0)]) (cs := [.slice ab x19.length ac]) rfl bp
  obtain ⟨ap, an, bq, ba⟩ := a9.settlePlc (i := 0) rfl
  replace ad := ad.mono (Heap.le_trans (Heap.le_trans a8 am) an)
  replace ak := ak.mono (Heap.le_trans (Heap.le_trans (Heap.le_trans bs a8) am) an)
  replace ba : Mem (Fr.put ⟨w, h, noX⟩ aa (some (.map #[] 0))) ap (K23e1 b d g j k f l) [⟨(K23c2 p y q s x), none⟩, ⟨[.int .i64 0], some 3⟩, ⟨[.slice ab x19.length ac], none⟩, ⟨[.slice none 0 0], some 22⟩, ⟨[.slice u x22.length z], some 22⟩, ⟨[.bool false], some 4⟩, ⟨[.map (some aa)], some 86⟩] [⟨u, x22.length, z, 3, 1, ae, 0⟩] bi := ba
  have az : BoxS ap b (y : Yard) := BoxS.of (e := (K23e1 b d g j k f l)) (cs := (K23c2 p y q s x)) ((rep_pair (rep_slice ad) (rep_pair (rep_slice ak) rep_int)) : rep ap (y : Yard) _) rfl bq
  have ew : CellsAt ap b [.slice p y.room.length q, .slice s y.buses.length x, .int .i64 y.broken] := CellsAt.of (e := [(b, 0), (d, 0), (g, 0), (j, 0), (k, 0), (f, 0), (l, 0)]) (cs := [.slice p y.room.length q, .slice s y.buses.length x, .int .i64 y.broken]) rfl bq
  obtain ⟨aq, ar, cd, bb⟩ := ba.settlePlc (i := 6) rfl
  replace bb : Mem (Fr.put ⟨w, h, noX⟩ aa (some (.map #[] 0))) aq (K23e1 b d g j k f l) [⟨(K23c2 p y q s x), none⟩, ⟨[.int .i64 0], some 3⟩, ⟨[.slice ab x19.length ac], none⟩, ⟨[.slice none 0 0], some 22⟩, ⟨[.slice u x22.length z], some 22⟩, ⟨[.bool false], some 4⟩, ⟨[.map (some aa)], none⟩] [⟨u, x22.length, z, 3, 1, ae, 0⟩] bi := bb
  have a4 : CellsAt aq l [.map (some aa)] := CellsAt.of (e := [(b, 0), (d, 0), (g, 0), (j, 0), (k, 0), (f, 0), (l, 0)]) (cs := [.map (some aa)]) rfl cd
  refine R_func 0 #[] #[.pointer (some ⟨g, 0, none⟩), .pointer (some ⟨b, 0, none⟩), .pointer (some ⟨l, 0, none⟩), .pointer (some ⟨f, 0, none⟩), .pointer (some ⟨d, 0, none⟩)] cl rfl rfl (rfl) rfl (by decide) (by rfl) (by rfl) (by rfl) (by rfl) fun ee (cn : Kn 32 (K23e1 b d g j k f l) ((24, .one (.c (.func (.func 49) #[] #[.pointer (some ⟨g, 0, none⟩), .pointer (some ⟨b, 0, none⟩), .pointer (some ⟨l, 0, none⟩), .pointer (some ⟨f, 0, none⟩), .pointer (some ⟨d, 0, none⟩)]))) :: (tP 10 6 0) :: K23m7) ee) => ?_
  refine wl fun K hK => ?_
  refine wa [.nilfunc] cn bb fun m b0 fi (co : Kn 32 [(b, 0), (d, 0), (g, 0), (j, 0), (k, 0), (f, 0), (l, 0), (m, 0)] ((tP 11 7 0) :: (24, .one (.c (.func (.func 49) #[] #[.pointer (some ⟨g, 0, none⟩), .pointer (some ⟨b, 0, none⟩), .pointer (some ⟨l, 0, none⟩), .pointer (some ⟨f, 0, none⟩), .pointer (some ⟨d, 0, none⟩)]))) :: (tP 10 6 0) :: K23m7) b0) dy => hK _ _ ?_
  refine wl fun K hK => ?_
  refine wst 7 0 (.c (.func (.func 49) #[] #[.pointer (some ⟨g, 0, none⟩), .pointer (some ⟨b, 0, none⟩), .pointer (some ⟨l, 0, none⟩), .pointer (some ⟨f, 0, none⟩), .pointer (some ⟨d, 0, none⟩)])) (K23c4 g b l f d) co dy fun fj cp dz => hK _ _ ?_
  have cq : Kn 32 [(b, 0), (d, 0), (g, 0), (j, 0), (k, 0), (f, 0), (l, 0), (m, 0)] ((tP 11 7 0) :: (tP 9 5 0) :: (tP 8 4 0) :: (tP 7 3 0) :: K23m6) b0 := cp.kp
  refine wf (wp_seq (wp_region_from (wl fun K hK => ?_)))
  refine wa [.nilfunc] cq dz fun o ef fk (cr : Kn 32 (K23e3 b d g j k f l m o) ((tP 12 8 0) :: (tP 11 7 0) :: (tP 9 5 0) :: (tP 8 4 0) :: (tP 7 3 0) :: K23m6) ef) d0 => hK _ _ ?_
  refine wf (wp_seq (wp_region_from (R_func 0 #[] #[.pointer (some ⟨b, 0, none⟩), .pointer (some ⟨m, 0, none⟩), .pointer (some ⟨f, 0, none⟩), .pointer (some ⟨d, 0, none⟩), .pointer (some ⟨j, 0, none⟩), .pointer (some ⟨k, 0, none⟩), .pointer (some ⟨o, 0, none⟩)] cr rfl rfl (rfl) rfl (by decide) (by rfl) (by rfl) (by rfl) (by rfl) fun b1 (ct : Kn 32 (K23e3 b d g j k f l m o) ((25, .one (.c (.func (.func 53) #[] #[.pointer (some ⟨b, 0, none⟩), .pointer (some ⟨m, 0, none⟩), .pointer (some ⟨f, 0, none⟩), .pointer (some ⟨d, 0, none⟩), .pointer (some ⟨j, 0, none⟩), .pointer (some ⟨k, 0, none⟩), .pointer (some ⟨o, 0, none⟩)]))) :: (tP 12 8 0) :: (tP 11 7 0) :: (tP 9 5 0) :: (tP 8 4 0) :: (tP 7 3 0) :: K23m6) b1) => ?_)))
  refine wl fun K hK => ?_
  refine wst 8 0 (.c (.func (.func 53) #[] #[.pointer (some ⟨b, 0, none⟩), .pointer (some ⟨m, 0, none⟩), .pointer (some ⟨f, 0, none⟩), .pointer (some ⟨d, 0, none⟩), .pointer (some ⟨j, 0, none⟩), .pointer (some ⟨k, 0, none⟩), .pointer (some ⟨o, 0, none⟩)])) (K23c5 b m f d j k o) ct d0 fun bj cu bu => hK _ _ ?_
  have cv : Kn 32 (K23e3 b d g j k f l m o) [(tP 12 8 0), (tP 9 5 0), (tP 7 3 0), (tP 3 1 0)] b1 := cu.kp
  refine wf (wp_seq (wp_region_from (Rk 0 1 [(26, .one (.c (.func (.func 53) #[] #[.pointer (some ⟨b, 0, none⟩), .pointer (some ⟨m, 0, none⟩), .pointer (some ⟨f, 0, none⟩), .pointer (some ⟨d, 0, none⟩), .pointer (some ⟨j, 0, none⟩), .pointer (some ⟨k, 0, none⟩), .pointer (some ⟨o, 0, none⟩)]))), (tP 9 5 0), (tP 7 3 0), (tP 3 1 0)] cv bu fun ez cw => ?_)))
  have d1 : Mem (Fr.put ⟨w, h, noX⟩ aa (some (.map #[] 0))) aq (K23e3 b d g j k f l m o) [⟨(K23c2 p y q s x), none⟩, ⟨[.int .i64 0], some 3⟩, ⟨[.slice ab x19.length ac], none⟩, ⟨[.slice none 0 0], some 22⟩, ⟨[.slice u x22.length z], some 22⟩, ⟨[.bool false], some 4⟩, ⟨[.map (some aa)], none⟩, ⟨(K23c4 g b l f d), some 99⟩, ⟨(K23c5 b m f d j k o), some 81⟩] [⟨u, x22.length, z, 3, 1, ae, 0⟩, ⟨none, 0, 0, 3, 1, ([] : List Value), 0⟩] bj := bu.nilRow 3 1
  have a2 : Cells aq ([] : List Int) [] := Cells.nil
  obtain ⟨bm, al, ce, bc⟩ := d1.settlePlc (i := 7) rfl
  replace bc : Mem (Fr.put ⟨w, h, noX⟩ aa (some (.map #[] 0))) bm (K23e3 b d g j k f l m o) [⟨(K23c2 p y q s x), none⟩, ⟨[.int .i64 0], some 3⟩, ⟨[.slice ab x19.length ac], none⟩, ⟨[.slice none 0 0], some 22⟩, ⟨[.slice u x22.length z], some 22⟩, ⟨[.bool false], some 4⟩, ⟨[.map (some aa)], none⟩, ⟨(K23c4 g b l f d), none⟩, ⟨(K23c5 b m f d j k o), some 81⟩] [⟨u, x22.length, z, 3, 1, ae, 0⟩, ⟨none, 0, 0, 3, 1, ([] : List Value), 0⟩] bj := bc
  have a5 : CellsAt bm m [.func (.func 49) #[] #[.pointer (some ⟨g, 0, none⟩), .pointer (some ⟨b, 0, none⟩), .pointer (some ⟨l, 0, none⟩), .pointer (some ⟨f, 0, none⟩), .pointer (some ⟨d, 0, none⟩)]] := CellsAt.of (e := [(b, 0), (d, 0), (g, 0), (j, 0), (k, 0), (f, 0), (l, 0), (m, 0), (o, 0)]) (cs := [.func (.func 49) #[] #[.pointer (some ⟨g, 0, none⟩), .pointer (some ⟨b, 0, none⟩), .pointer (some ⟨l, 0, none⟩), .pointer (some ⟨f, 0, none⟩), .pointer (some ⟨d, 0, none⟩)]]) rfl ce
  obtain ⟨bn, ah, cf, bd⟩ := bc.settlePlc (i := 8) rfl
  replace ay := ay.mono (Heap.le_trans (Heap.le_trans (Heap.le_trans an ar) al) ah)
  replace az := az.mono (Heap.le_trans (Heap.le_trans ar al) ah)
  replace a4 := a4.mono (Heap.le_trans al ah)
  replace a5 := a5.mono ah
  replace a3 := a3.mono (Heap.le_trans (Heap.le_trans (Heap.le_trans (Heap.le_trans am an) ar) al) ah)
  replace a2 := a2.mono (Heap.le_trans al ah)
  replace aw := aw.mono (Heap.le_trans (Heap.le_trans (Heap.le_trans (Heap.le_trans am an) ar) al) ah)
  replace bd : Mem (Fr.put ⟨w, h, noX⟩ aa (some (.map #[] 0))) bn (K23e3 b d g j k f l m o) [⟨(K23c2 p y q s x), none⟩, ⟨[.int .i64 0], some 3⟩, ⟨[.slice ab x19.length ac], none⟩, ⟨[.slice none 0 0], some 22⟩, ⟨[.slice u x22.length z], some 22⟩, ⟨[.bool false], some 4⟩, ⟨[.map (some aa)], none⟩, ⟨(K23c4 g b l f d), none⟩, ⟨(K23c5 b m f d j k o), none⟩] [⟨u, x22.length, z, 3, 1, ae, 0⟩, ⟨none, 0, 0, 3, 1, ([] : List Value), 0⟩] bj := bd
  have cc : CellsAt bn o [.func (.func 53) #[] #[.pointer (some ⟨b, 0, none⟩), .pointer (some ⟨m, 0, none⟩), .pointer (some ⟨f, 0, none⟩), .pointer (some ⟨d, 0, none⟩), .pointer (some ⟨j, 0, none⟩), .pointer (some ⟨k, 0, none⟩), .pointer (some ⟨o, 0, none⟩)]] := CellsAt.of (e := [(b, 0), (d, 0), (g, 0), (j, 0), (k, 0), (f, 0), (l, 0), (m, 0), (o, 0)]) (cs := [.func (.func 53) #[] #[.pointer (some ⟨b, 0, none⟩), .pointer (some ⟨m, 0, none⟩), .pointer (some ⟨f, 0, none⟩), .pointer (some ⟨d, 0, none⟩), .pointer (some ⟨j, 0, none⟩), .pointer (some ⟨k, 0, none⟩), .pointer (some ⟨o, 0, none⟩)]]) rfl cf
  obtain ⟨x27, ex27, H⟩ := bnd H
  obtain ⟨ep, ca, ds, ec⟩ := bd.lend1 aa (Fr.put_X _ _ _) [5, 1, 3, 4] [1, 0] (by kernel_rfl) (by kernel_rfl) (by kernel_rfl) (by kernel_rfl)
  refine wl fun K hK => ?_
  refine wp_callVM (.func (.func 53) #[] #[.pointer (some ⟨b, 0, none⟩), .pointer (some ⟨m, 0, none⟩), .pointer (some ⟨f, 0, none⟩), .pointer (some ⟨d, 0, none⟩), .pointer (some ⟨j, 0, none⟩), .pointer (some ⟨k, 0, none⟩), .pointer (some ⟨o, 0, none⟩)]) [.c (.slice none 0 0)] _ cw rfl rfl (by decide) (by rfl) (by rfl) rfl ⟨53, _, _, rfl, fun _ _ => by kernel_rfl, lane_Best_2_ok n ([] : List Int) a2 false 0 ([] : List Int) RepS.nil x22 a3 y az a5 cc x19 ay ([] : List (Key × Int)) a4 (ca _ _ (Fr.put_X _ _ _)) aw ds ex27⟩ fun fd b5 b9 => ?_
  obtain ⟨bo, af, ag, bh, bl, bk, dt, rfl, eb, d9, eu, er, d2⟩ := b9
  have av := ec _ _ _ _ [⟨none, 0, 0, 3, 1, ([] : List Value), 0⟩, ⟨u, x22.length, z, 3, 1, bh, 0⟩] dt rfl (Nat.le_of_ble_eq_true rfl) (by kernel_rfl) d2
  rw [Fr.put_put] at av
  replace av : Mem (Fr.put ⟨w, h, noX⟩ aa (some (.map bl bk))) bo [(b, 0), (d, 0), (g, 0), (j, 0), (k, 0), (f, 0), (l, 0), (m, 0), (o, 0)] [⟨[.slice p y.room.length q, .slice s y.buses.length x, .int .i64 y.broken], none⟩, ⟨[.int .i64 x27.2.1], some 3⟩, ⟨[.slice ab x19.length ac], none⟩, ⟨[.slice af x27.2.2.1.length ag], some 22⟩, ⟨[.slice u x22.length z], some 22⟩, ⟨[.bool x27.1], some 4⟩, ⟨[.map (some aa)], none⟩, ⟨[.func (.func 49) #[] #[.pointer (some ⟨g, 0, none⟩), .pointer (some ⟨b, 0, none⟩), .pointer (some ⟨l, 0, none⟩), .pointer (some ⟨f, 0, none⟩), .pointer (some ⟨d, 0, none⟩)]], none⟩, ⟨[.func (.func 53) #[] #[.pointer (some ⟨b, 0, none⟩), .pointer (some ⟨m, 0, none⟩), .pointer (some ⟨f, 0, none⟩), .pointer (some ⟨d, 0, none⟩), .pointer (some ⟨j, 0, none⟩), .pointer (some ⟨k, 0, none⟩), .pointer (some ⟨o, 0, none⟩)]], none⟩] [⟨u, x22.length, z, 3, 1, bh, 0⟩, ⟨none, 0, 0, 3, 1, ([] : List Value), 0⟩] b5 := av
  refine ⟨.tup [], rfl, fun b2 (cy : Kn 32 (K23e3 b d g j k f l m o) [(27, .tup []), (26, .one (.c (.func (.func 53) #[] #[.pointer (some ⟨b, 0, none⟩), .pointer (some ⟨m, 0, none⟩), .pointer (some ⟨f, 0, none⟩), .pointer (some ⟨d, 0, none⟩), .pointer (some ⟨j, 0, none⟩), .pointer (some ⟨k, 0, none⟩), .pointer (some ⟨o, 0, none⟩)]))), (tP 9 5 0), (tP 7 3 0), (tP 3 1 0)] b2) => hK _ _ ?_⟩
  have ea := d9.symm
  have cz := cy
  have ai : Mem (Fr.put ⟨w, h, noX⟩ aa (some (.map bl bk))) bo [(b, 0), (d, 0), (g, 0), (j, 0), (k, 0), (f, 0), (l, 0), (m, 0), (o, 0)] [⟨[.slice p y.room.length q, .slice s y.buses.length x, .int .i64 y.broken], none⟩, ⟨[.int .i64 x27.2.1], some 3⟩, ⟨[.slice ab x19.length ac], none⟩, ⟨[.slice af x27.2.2.1.length ag], some 22⟩, ⟨[.slice u x27.2.2.2.1.length z], some 22⟩, ⟨[.bool x27.1], some 4⟩, ⟨[.map (some aa)], none⟩, ⟨[.func (.func 49) #[] #[.pointer (some ⟨g, 0, none⟩), .pointer (some ⟨b, 0, none⟩), .pointer (some ⟨l, 0, none⟩), .pointer (some ⟨f, 0, none⟩), .pointer (some ⟨d, 0, none⟩)]], none⟩, ⟨[.func (.func 53) #[] #[.pointer (some ⟨b, 0, none⟩), .pointer (some ⟨m, 0, none⟩), .pointer (some ⟨f, 0, none⟩), .pointer (some ⟨d, 0, none⟩), .pointer (some ⟨j, 0, none⟩), .pointer (some ⟨k, 0, none⟩), .pointer (some ⟨o, 0, none⟩)]], none⟩] [⟨u, x27.2.2.2.1.length, z, 3, 1, bh, 0⟩, ⟨none, 0, 0, 3, 1, ([] : List Value), 0⟩] b5 := by rw [← ea]; exact av
  have c0 : Kn 32 (K23e3 b d g j k f l m o) [(tP 9 5 0), (tP 7 3 0), (tP 3 1 0)] b2 := cz.kp
  refine wf (wp_seq (wp_seq (wp_region_from (Rk 0 2 [(tB 29 (!x27.1)), (tP 7 3 0), (tP 3 1 0)] c0 ai fun e1 a6 => ?_))))
  refine wf (wC ((!x27.1)) a6 (fun a0 => ?_) (fun a0 => ?_))
  ·
   rw [a0, cond_true] at H
   refine wp_seq (wp_region_from (Rk 0 1 [(tS 2 none 0 0), (tP 3 1 0)] a6 ai fun e2 c2 => ?_))
   refine wl fun K hK => ?_
   refine wst 1 0 (.c (.int .i64 0)) [.int .i64 0] c2 ai fun fm c3 bv => hK _ _ ?_
   refine Rk 2 1 [(tI 4 9), (tS 2 none 0 0), (tP 3 1 0)] c3 bv fun e3 c4 => ?_
   refine wf (wp_ret ?_)
   obtain rfl := Option.some.inj H
   exact rt (.tup [.c (.slice none 0 0), .c (.int .i64 0), .c (.int .i64 9)]) c4 bv ⟨_, _, _, rfl, ⟨_, _, rfl, RepS.nil⟩, rfl, rfl⟩
  ·
   rw [a0, cond_false] at H
   refine wp_skip (wp_seq (wp_region_G (by kernel_rfl) ?_))
   replace ai := ai.drew
   refine wpG_of_D [] (K23e3 b d g j k f l m o) [⟨(K23c2 p y q s x), none⟩, ⟨[.int .i64 x27.2.1], some 3⟩, ⟨[.slice ab x19.length ac], none⟩, ⟨[.slice af x27.2.2.1.length ag], some 22⟩, ⟨[.slice u x27.2.2.2.1.length z], some 22⟩, ⟨[.bool x27.1], some 4⟩, ⟨[.map (some aa)], none⟩, ⟨(K23c4 g b l f d), none⟩, ⟨(K23c5 b m f d j k o), none⟩] ?_
   refine Dr [0, 1, 2] [2, 1, 0] [(tS 2 af x27.2.2.1.length ag), (tI 31 x27.2.1), (tP 3 1 0)] a6 ai fun e5 c5 => ?_
   refine D_sync 3 rfl (by kernel_rfl) (by decide) (rfl) (by kernel_rfl) fun K hK => ?_
   refine wst 1 0 (.c (.int .i64 x27.2.1)) [.int .i64 x27.2.1] c5 ai fun fn c6 bw => hK _ _ ?_
   refine wpG_of_D [] (K23e3 b d g j k f l m o) [⟨(K23c2 p y q s x), none⟩, ⟨[.int .i64 x27.2.1], some 3⟩, ⟨[.slice ab x19.length ac], none⟩, ⟨[.slice af x27.2.2.1.length ag], some 22⟩, ⟨[.slice u x27.2.2.2.1.length z], some 22⟩, ⟨[.bool x27.1], some 4⟩, ⟨[.map (some aa)], none⟩, ⟨(K23c4 g b l f d), none⟩, ⟨(K23c5 b m f d j k o), none⟩] ?_
   refine Dr [4] (dn 4) [(tI 4 0), (tS 2 af x27.2.2.1.length ag), (tP 3 1 0)] c6 bw fun e6 c7 => ?_
   refine wpD_end (by kernel_rfl) (wp_ret ?_)
   obtain rfl := Option.some.inj H
   exact rt (.tup [.c (.slice af x27.2.2.1.length ag), .c (.int .i64 x27.2.1), .c (.int .i64 0)]) c7 bw ⟨_, _, _, rfl, ⟨_, _, rfl, eb⟩, rfl, rfl⟩
end Go.Proofs.Ythcbemnflgjadaa
