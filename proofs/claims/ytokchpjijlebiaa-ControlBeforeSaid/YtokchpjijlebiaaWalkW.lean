/- Each call computes its plain function: printed by dec.py. -/
import Derived.Test.YtokchpjijlebiaaProg
import Derived.Test.YtokchpjijlebiaaPure
import Derived.Test.YtokchpjijlebiaaWalkP
import Derived.Test.YtokchpjijlebiaaWalkR
set_option linter.all false
namespace Go.Proofs.Ytokchpjijlebiaa
open Go Go.RowKit
open Rep (rep)
open KRep (kv)
open VRep (rv)
abbrev K66c1 (y : Rg) : List SC := [.int .i64 y.lo, .int .i64 y.hi]
abbrev K66c2 (z : Rg) : List SC := [.int .i64 z.lo, .int .i64 z.hi]
abbrev K66c3 (aj : ((List Int) × Int × Int)) : List SC := [.int .i64 aj.2.1, .int .i64 aj.2.2]
abbrev K66e4 (k o m u : Nat) : Env := [(k, 0), (o, 0), (m, 0), (u, 0)]
abbrev K66e5 (k o m u aa ab : Nat) (x_v21 : Int) (x : Nat) : Env := [(k, 0), (o, 0), (m, 0), (u, 0), (aa, ab + (x_v21 : Int).toNat * 1), (x, 0)]
abbrev K66e6 (k o m u aa ab : Nat) (x_v21 : Int) (x ay : Nat) : Env := [(k, 0), (o, 0), (m, 0), (u, 0), (aa, ab + (x_v21 : Int).toNat * 1), (x, 0), (ay, 0)]
abbrev K66c7 (a : Option Addr) (r_ : Route) (e : Nat) (b : Option Addr) (f : Nat) (d : Option Addr) (g : Nat) : List SC := [.slice a r_.legs.length e, .int .i64 r_.turn.lo, .int .i64 r_.turn.hi, .slice b r_.buses.length f, .slice d r_.spares.length g, .int .i64 r_.unit, .int .i64 r_.gap, .int .i64 r_.fr, .int .i64 r_.to_]
abbrev K66r8 (q : Option Addr) (x_v20 : List Int) (s : Nat) (ae : List Value) : List Row := [⟨q, x_v20.length, s, 3, 1, ae, (ae : List Value).length⟩]
abbrev K66p9 (a : Option Addr) (r_ : Route) (e : Nat) (b : Option Addr) (f : Nat) (d : Option Addr) (g : Nat) : List Plc := [⟨(K66c7 a r_ e b f d g), some 43⟩, ⟨[.int .i64 0, .int .i64 0], some 126⟩, ⟨[], none⟩]
abbrev K66p10 (a : Option Addr) (r_ : Route) (e : Nat) (b : Option Addr) (f : Nat) (d : Option Addr) (g : Nat) (x_v22 x_v23 x42 : Int) : List Plc := [⟨(K66c7 a r_ e b f d g), some 43⟩, ⟨[.int .i64 0, .int .i64 0], some 126⟩, ⟨[], none⟩, ⟨[.int .i64 x_v22, .int .i64 x_v23], some 126⟩, ⟨[.int .i64 x42], none⟩, ⟨[], none⟩]
abbrev K66p11 (a : Option Addr) (r_ : Route) (e : Nat) (b : Option Addr) (f : Nat) (d : Option Addr) (g : Nat) (x_v22 x_v23 x42 : Int) (z : Rg) : List Plc := [⟨(K66c7 a r_ e b f d g), some 43⟩, ⟨[.int .i64 0, .int .i64 0], some 126⟩, ⟨[], none⟩, ⟨[.int .i64 x_v22, .int .i64 x_v23], some 126⟩, ⟨[.int .i64 x42], none⟩, ⟨[], none⟩, ⟨(K66c2 z), some 39⟩]
abbrev K66m12 (a : Option Addr) (r_ : Route) (e : Nat) (b : Option Addr) (f : Nat) (d : Option Addr) (g : Nat) (ac : Option Addr) (x_v10 : List Int) (ad bm_spans : Nat) : TM := [(tP 21 2 0), (6, .one (.c (.func (.func 95) #[.agg #[.slice a r_.legs.length e, .int .i64 r_.turn.lo, .int .i64 r_.turn.hi, .slice b r_.buses.length f, .slice d r_.spares.length g, .int .i64 r_.unit, .int .i64 r_.gap, .int .i64 r_.fr, .int .i64 r_.to_]] #[]))), (tS 5 ac x_v10.length ad), (tP 4 1 0), (tP 2 0 0), (1, .one (.c (.map (some bm_spans))))]
abbrev K66m13 (x_v21 : Int) (p : ((List Int) × (List (Int × Rg)))) (q : Option Addr) (x_v20 : List Int) (s bm_spans : Nat) : TM := [(tI 40 x_v21), (tI 39 ((p.1.length : Nat) : Int)), (tS 38 q x_v20.length s), (tP 9 3 0), (tP 4 1 0), (tP 2 0 0), (1, .one (.c (.map (some bm_spans))))]
abbrev K66m14 (a : Option Addr) (r_ : Route) (e : Nat) (b : Option Addr) (f : Nat) (d : Option Addr) (g : Nat) (an : Option Addr) (bm_spans : Nat) : TM := [(6, .one (.c (.func (.func 95) #[.agg #[.slice a r_.legs.length e, .int .i64 r_.turn.lo, .int .i64 r_.turn.hi, .slice b r_.buses.length f, .slice d r_.spares.length g, .int .i64 r_.unit, .int .i64 r_.gap, .int .i64 r_.fr, .int .i64 r_.to_]] #[]))), (tS 5 an 1 1), (tP 4 1 0), (tP 2 0 0), (1, .one (.c (.map (some bm_spans))))]
abbrev K66m15 (a : Option Addr) (r_ : Route) (e : Nat) (b : Option Addr) (f : Nat) (d : Option Addr) (g bm_spans : Nat) : TM := [(tP 21 2 0), (6, .one (.c (.func (.func 95) #[.agg #[.slice a r_.legs.length e, .int .i64 r_.turn.lo, .int .i64 r_.turn.hi, .slice b r_.buses.length f, .slice d r_.spares.length g, .int .i64 r_.unit, .int .i64 r_.gap, .int .i64 r_.fr, .int .i64 r_.to_]] #[]))), (tP 4 1 0), (tP 2 0 0), (1, .one (.c (.map (some bm_spans))))]
abbrev K66m16 (bm_spans : Nat) : TM := [(tP 4 1 0), (tP 2 0 0), (1, .one (.c (.map (some bm_spans))))]
abbrev K66m17 (x_v30 x42 x_v21 : Int) (p : ((List Int) × (List (Int × Rg)))) (q : Option Addr) (x_v20 : List Int) (s bm_spans : Nat) : TM := (tP 47 5 0) :: (tI 12 x_v30) :: (tI 11 x42) :: (K66m13 x_v21 p q x_v20 s bm_spans)
set_option maxRecDepth 100000 in
set_option maxHeartbeats 4000000 in
theorem control_Route_worst_ok (n : Nat) {h : Heap} {w : World} (hh : Has h w) (r_ : Route) {cs_r_ : List Value} (hx_r_ : rep h r_ cs_r_) (spans : IMap Int Rg) {bm_spans : Nat} {es_spans : Array MapEntry} {cl_spans : Nat} (hM_spans : h bm_spans 0 = some (encMap es_spans cl_spans)) (hE_spans : Ents h es_spans.toList cl_spans spans.l) {Q : Wait → Prop} (H : control_Route_worst n r_ spans Q) :
  Calls Try.prog 66 #[.agg cs_r_.toArray, .map (some bm_spans)] w (Ret (fun h v => ∃ r, Q r ∧ ∃ cs, v = .agg cs.toArray ∧ rep h r cs) h w) := by
 obtain ⟨_, _, rfl, ⟨a, e, rfl, af⟩, ⟨_, _, rfl, ⟨_, _, rfl, rfl, rfl⟩, ⟨_, _, rfl, ⟨b, f, rfl, ag⟩, ⟨_, _, rfl, ⟨d, g, rfl, ah⟩, ⟨_, _, rfl, rfl, ⟨_, _, rfl, rfl, ⟨_, _, rfl, rfl, rfl⟩⟩⟩⟩⟩⟩⟩ := hx_r_
 refine enter 74 [.agg (K66c7 a r_ e b f d g), .c (.map (some bm_spans))] Try.func66 rfl rfl rfl rfl fun t hk => ?_
 have hm := Mem.begin h w hh
 unfold control_Route_worst at H
 refine wp_seq (wp_region_from (wpFrom_loud _ rfl (rfl) fun K hK => ?_))
 refine wp_box (.agg (K66c7 a r_ e b f d g)) hk hm rfl rfl (by decide) (by kernel_rfl) (by kernel_rfl) (by kernel_rfl) fun k gz hn (ek : Kn 74 [(k, 0)] [(tP 2 0 0), (tA 0 (K66c7 a r_ e b f d g)), (1, .one (.c (.map (some bm_spans))))] gz) (ga : Mem ⟨w, h, noX⟩ h [(k, 0)] [⟨(K66c7 a r_ e b f d g), some 43⟩] [] hn) => hK _ _ ?_
 refine wpFrom_loud _ rfl (rfl) fun K hK => ?_
 refine wp_alloc [.int .i64 0, .int .i64 0] ek ga rfl rfl (by decide) (by kernel_rfl) (by kernel_rfl) (by kernel_rfl) fun o dq ht (eu : Kn 74 [(k, 0), (o, 0)] [(tP 4 1 0), (tP 2 0 0), (tA 0 (K66c7 a r_ e b f d g)), (1, .one (.c (.map (some bm_spans))))] dq) (dh : Mem ⟨w, h, noX⟩ h [(k, 0), (o, 0)] [⟨(K66c7 a r_ e b f d g), some 43⟩, ⟨[.int .i64 0, .int .i64 0], some 126⟩] [] ht) => hK _ _ ?_
 have ew : Kn 74 [(k, 0), (o, 0)] (K66m16 bm_spans) dq := eu.keep [4, 2, 1] (by rfl)
 refine wpFrom_end (by decide) (wp_seq (wp_region_from (R_runk 0 2 [16, 4, 2, 1] ((tI 16 r_.fr) :: (K66m16 bm_spans)) ew dh.plOk (by kernel_rfl) fun il e3 => ?_)))
 refine wpFrom_loud _ rfl (rfl) fun K hK => ?_
 refine wp_buildSlice 3 1 [.int .i64 r_.fr] e3 dh rfl rfl (by decide) (by kernel_rfl) (by rfl) (by rfl) rfl (by decide) fun an g4 hv (e8 : Kn 74 [(k, 0), (o, 0)] ((tS 17 an 1 1) :: (tI 16 r_.fr) :: (K66m16 bm_spans)) g4) (bp : Mem ⟨w, h, noX⟩ h [(k, 0), (o, 0)] [⟨(K66c7 a r_ e b f d g), some 43⟩, ⟨[.int .i64 0, .int .i64 0], some 126⟩] [⟨an, 1, 1, 3, 1, ([.int .i64 r_.fr] : List Value), 0⟩] hv) => ?_
 have d8 : Cells h ([r_.fr] : List Int) ([.int .i64 r_.fr] : List Value) := ⟨_, _, rfl, (rep_int : rep h (r_.fr : Int) _), rfl⟩
 refine hK _ _ ?_
 refine R_runk 3 1 [5, 4, 2, 1] ((tS 5 an 1 1) :: (K66m16 bm_spans)) e8 bp.plOk (by kernel_rfl) fun iu fi => ?_
 refine wpFrom_end (by decide) (wp_seq (wp_region_from (R_runk 0 1 [18, 5, 4, 2, 1] ((tA 18 (K66c7 a r_ e b f d g)) :: (tS 5 an 1 1) :: (K66m16 bm_spans)) fi bp.plOk (by kernel_rfl) fun ix fp => ?_)))
 refine R_func 1 #[.agg #[.slice a r_.legs.length e, .int .i64 r_.turn.lo, .int .i64 r_.turn.hi, .slice b r_.buses.length f, .slice d r_.spares.length g, .int .i64 r_.unit, .int .i64 r_.gap, .int .i64 r_.fr, .int .i64 r_.to_]] #[] fp rfl rfl (rfl) rfl (by decide) (by rfl) (by rfl) (by rfl) (by rfl) fun hc (fu : Kn 74 [(k, 0), (o, 0)] ((19, .one (.c (.func (.func 95) #[.agg #[.slice a r_.legs.length e, .int .i64 r_.turn.lo, .int .i64 r_.turn.hi, .slice b r_.buses.length f, .slice d r_.spares.length g, .int .i64 r_.unit, .int .i64 r_.gap, .int .i64 r_.fr, .int .i64 r_.to_]] #[]))) :: (tA 18 (K66c7 a r_ e b f d g)) :: (tS 5 an 1 1) :: (K66m16 bm_spans)) hc) => ?_
 refine R_runk 2 1 [6, 5, 4, 2, 1] (K66m14 a r_ e b f d g an bm_spans) fu bp.plOk (by kernel_rfl) fun i0 fv => ?_
 refine wpFrom_end (by decide) (wp_seq (wp_seq (wp_region_from (R_runk 0 1 [20, 6, 5, 4, 2, 1] ((20, .one (.c (.map (some bm_spans)))) :: (K66m14 a r_ e b f d g an bm_spans)) fv bp.plOk (by kernel_rfl) fun i1 fw => ?_))))
 refine wpFrom_loud _ rfl (rfl) fun K hK => ?_
 refine wp_rangeP (KT := 3) (E := 39) (l := spans.l) fw bp rfl rfl (by decide) (by rfl) (by kernel_rfl) hM_spans hE_spans (by kernel_rfl) fun m dt h3 d4 dx (fx : Kn 74 [(k, 0), (o, 0), (m, 0)] ((tP 21 2 0) :: (20, .one (.c (.map (some bm_spans)))) :: (K66m14 a r_ e b f d g an bm_spans)) dt) (gi : Mem (Fr.put ⟨w, h, noX⟩ m (some (.mapIter (some bm_spans) cl_spans #[] cl_spans))) h [(k, 0), (o, 0), (m, 0)] (K66p9 a r_ e b f d g) [⟨an, 1, 1, 3, 1, ([.int .i64 r_.fr] : List Value), 0⟩] h3) => hK _ _ ?_
 have fy : Kn 74 [(k, 0), (o, 0), (m, 0)] ((tP 21 2 0) :: (K66m14 a r_ e b f d g an bm_spans)) dt := fx.keep [21, 6, 5, 4, 2, 1] (by rfl)
 refine wpFrom_end (by decide) ?_
 obtain ⟨c4, d0, H⟩ := ptK (G := control_Route_worst_l1 n r_ ([r_.fr] : List Int) spans.l) H
 refine wp_mid' (fun a' w' => ∃ (p : (List Int) × (List (Int × Rg))) (aq : Option Addr) (ar : Nat) (bc : List Value) (cv : Array Nat) (c0 : Array Value) (a0 : Heap), a' = ⟨c0, []⟩ ∧ Kn 74 [(k, 0), (o, 0), (m, 0)] ((tS 5 aq p.1.length ar) :: (K66m16 bm_spans)) c0 ∧ Mem (Fr.put ⟨w, h, noX⟩ m (some (.mapIter (some bm_spans) cl_spans cv cl_spans))) a0 [(k, 0), (o, 0), (m, 0)] (K66p9 a r_ e b f d g) [⟨aq, p.1.length, ar, 3, 1, bc, 0⟩] w' ∧ Heap.le h a0 ∧ Cells a0 p.1 bc ∧ IterS a0 es_spans cv p.2 ∧ c4 p) ?_ ?_
 ·
  refine wp_block ?_
  refine wp_loop_n (fun gy a' w' => ∃ (x_v10 : List Int) (x_v11 : List (Int × Rg)) (ac : Option Addr) (ad : Nat) (ap : List Value) (ax : Array Nat) (c1 : Array Value) (a1 : Heap), a' = ⟨c1, []⟩ ∧ Kn 74 [(k, 0), (o, 0), (m, 0)] (K66m12 a r_ e b f d g ac x_v10 ad bm_spans) c1 ∧ Mem (Fr.put ⟨w, h, noX⟩ m (some (.mapIter (some bm_spans) cl_spans ax cl_spans))) a1 [(k, 0), (o, 0), (m, 0)] (K66p9 a r_ e b f d g) [⟨ac, x_v10.length, ad, 3, 1, ap, 0⟩] w' ∧ Heap.le h a1 ∧ Cells a1 x_v10 ap ∧ IterS a1 es_spans ax x_v11 ∧ control_Route_worst_l1 gy r_ x_v10 x_v11 c4) n ?_ ?_
  ·
   exact Exists.intro ([r_.fr] : List Int) ⟨spans.l, an, 1, ([.int .i64 r_.fr] : List Value), #[], _, _, rfl, (fy.keep [21, 6, 5, 4, 2, 1] (by rfl)), gi, (Heap.le_refl _), d8, dx, H⟩
  ·
   rintro bj _ jd ⟨x_v10, x_v11, ac, ad, ap, ax, c1, a1, rfl, fz, co, a9, bm, c7, ak⟩
   obtain _ | bj := bj
   ·
    rw [control_Route_worst_l1] at ak; exact ak.elim
   rw [control_Route_worst_l1] at ak
   replace af := af.mono a9
   replace ag := ag.mono a9
   replace ah := ah.mono a9
   replace hE_spans := hE_spans.mono a9
   replace hM_spans := a9 _ _ _ hM_spans
   refine wp_seq (wp_region_from (wpFrom_loud _ rfl (rfl) fun K hK => ?_))
   refine wp_nextP fz co rfl rfl (by decide) (by rfl) (by rfl) hM_spans hE_spans c7 ?_ ?_
   ·
    intro go hd (f0 : Kn 74 [(k, 0), (o, 0), (m, 0)] ((22, .tup [.c (.bool false)]) :: (K66m12 a r_ e b f d g ac x_v10 ad bm_spans)) hd)
    replace ak := ak.1 go
    refine hK _ _ ?_
    refine R_runk 1 1 [23, 21, 6, 5, 4, 2, 1] ((tB 23 false) :: (K66m12 a r_ e b f d g ac x_v10 ad bm_spans)) f0 co.plOk (by kernel_rfl) fun i2 db => ?_
    refine wpFrom_end (by decide) (wp_seq (wp_cond_sv false db (by kernel_rfl) (fun hb => ?_) (fun hb => ?_)))
    ·
     cases hb
    refine wp_exit ?_
    exact Exists.intro (x_v10, x_v11) ⟨ac, ad, ap, ax, _, _, rfl, (db.keep [5, 4, 2, 1] (by rfl)), co, a9, bm, c7, ak⟩
   ·
    intro bb bs y i8 ct gl gs eb bx he h4 f6 (b5 : Mem (Fr.put ⟨w, h, noX⟩ m (some (.mapIter (some bm_spans) cl_spans (Array.push ax bb) cl_spans))) a1 [(k, 0), (o, 0), (m, 0)] (K66p9 a r_ e b f d g) [⟨ac, x_v10.length, ad, 3, 1, ap, 0⟩] h4)
    replace ak := ak.2 bs y ct gl
    obtain ⟨_, rfl, ⟨_, _, rfl, rfl, rfl⟩⟩ := gs
    have f1 : Kn 74 [(k, 0), (o, 0), (m, 0)] ((22, .tup [.c (.bool true), .c (.int .i64 bs), .agg (K66c1 y)]) :: (K66m12 a r_ e b f d g ac x_v10 ad bm_spans)) he := f6 (.tup [.c (.bool true), .c (.int .i64 bs), .agg (K66c1 y)]) rfl
    refine hK _ _ ?_
    refine R_runk 1 1 [23, 21, 6, 5, 4, 2, 1] ((tB 23 true) :: (K66m12 a r_ e b f d g ac x_v10 ad bm_spans)) f1 b5.plOk (by kernel_rfl) fun i3 dc => ?_
    refine wpFrom_end (by decide) (wp_seq (wp_cond_sv true dc (by kernel_rfl) (fun hb => ?_) (fun hb => ?_)))
    rotate_left
    ·
     cases hb
    refine wp_skip (wp_block (wp_seq (wp_region_from (wpFrom_loud _ rfl (rfl) fun K hK => ?_))))
    refine wp_entryP dc b5 rfl rfl (by decide) (by rfl) (by rfl) hM_spans hE_spans eb fun hf f7 => ?_
    have f2 : Kn 74 [(k, 0), (o, 0), (m, 0)] ((24, .tup [.c (.int .i64 bs), .agg (K66c1 y)]) :: (tB 23 true) :: (K66m12 a r_ e b f d g ac x_v10 ad bm_spans)) hf := f7 (.tup [.c (.int .i64 bs), .agg (K66c1 y)]) rfl
    refine hK _ _ ?_
    refine R_runk 1 1 [25, 21, 6, 5, 4, 2, 1] ((tA 25 (K66c1 y)) :: (K66m12 a r_ e b f d g ac x_v10 ad bm_spans)) f2 b5.plOk (by kernel_rfl) fun i4 f3 => ?_
    refine wpFrom_loud _ rfl (rfl) fun K hK => ?_
    refine wp_alloc [.int .i64 0, .int .i64 0] f3 b5 rfl rfl (by decide) (by kernel_rfl) (by kernel_rfl) (by kernel_rfl) fun az dm hg (ed : Kn 74 [(k, 0), (o, 0), (m, 0), (az, 0)] ((tP 8 3 0) :: (tA 25 (K66c1 y)) :: (K66m12 a r_ e b f d g ac x_v10 ad bm_spans)) dm) (f9 : Mem (Fr.put ⟨w, h, noX⟩ m (some (.mapIter (some bm_spans) cl_spans (Array.push ax bb) cl_spans))) a1 [(k, 0), (o, 0), (m, 0), (az, 0)] [⟨(K66c7 a r_ e b f d g), some 43⟩, ⟨[.int .i64 0, .int .i64 0], some 126⟩, ⟨[], none⟩, ⟨[.int .i64 0, .int .i64 0], some 39⟩] [⟨ac, x_v10.length, ad, 3, 1, ap, 0⟩] hg) => hK _ _ ?_
    refine wpFrom_loud _ rfl (rfl) fun K hK => ?_
    refine wp_store 3 0 (.agg (K66c1 y)) (K66c1 y) ed f9 rfl rfl (by rfl) (by rfl) (by rfl) (by kernel_rfl) (by kernel_rfl) (by rfl) fun hl ee (ck : Mem (Fr.put ⟨w, h, noX⟩ m (some (.mapIter (some bm_spans) cl_spans (Array.push ax bb) cl_spans))) a1 [(k, 0), (o, 0), (m, 0), (az, 0)] [⟨(K66c7 a r_ e b f d g), some 43⟩, ⟨[.int .i64 0, .int .i64 0], some 126⟩, ⟨[], none⟩, ⟨(K66c1 y), some 39⟩] [⟨ac, x_v10.length, ad, 3, 1, ap, 0⟩] hl) => hK _ _ ?_
    have ef : Kn 74 [(k, 0), (o, 0), (m, 0), (az, 0)] ((tP 8 3 0) :: (K66m12 a r_ e b f d g ac x_v10 ad bm_spans)) dm := ee.keep [8, 21, 6, 5, 4, 2, 1] (by rfl)
    refine wpFrom_end (by decide) (wp_seq (wp_region_from (R_runk 0 3 [28, 26, 8, 21, 6, 5, 4, 2, 1] ((tI 28 y.lo) :: (26, .one (.c (.func (.func 95) #[.agg #[.slice a r_.legs.length e, .int .i64 r_.turn.lo, .int .i64 r_.turn.hi, .slice b r_.buses.length f, .slice d r_.spares.length g, .int .i64 r_.unit, .int .i64 r_.gap, .int .i64 r_.fr, .int .i64 r_.to_]] #[]))) :: (tP 8 3 0) :: (K66m12 a r_ e b f d g ac x_v10 ad bm_spans)) ef ck.plOk (by kernel_rfl) fun ia eg => ?_)))
    obtain ⟨x29, ex29, ak⟩ := ak
    refine wpFrom_loud _ rfl (rfl) fun K hK => ?_
    refine wp_callV (.func (.func 95) #[.agg #[.slice a r_.legs.length e, .int .i64 r_.turn.lo, .int .i64 r_.turn.hi, .slice b r_.buses.length f, .slice d r_.spares.length g, .int .i64 r_.unit, .int .i64 r_.gap, .int .i64 r_.fr, .int .i64 r_.to_]] #[]) [.c (.int .i64 y.lo)] _ eg ck rfl rfl (by decide) (by rfl) (by rfl) rfl ((show Fn5 a1 (.func (.func 95) #[.agg #[.slice a r_.legs.length e, .int .i64 r_.turn.lo, .int .i64 r_.turn.hi, .slice b r_.buses.length f, .slice d r_.spares.length g, .int .i64 r_.unit, .int .i64 r_.gap, .int .i64 r_.fr, .int .i64 r_.to_]] #[]) (fun (y0 : Int) => control_Route_looked bj r_ y0) from fun h2 w2 hle hh y0 r H => ⟨95, _, _, rfl, fun _ _ => by kernel_rfl, control_Route_looked_ok bj hh r_ (Rep.mono hle ((rep_pair (rep_slice af) (rep_pair (rep_pair rep_int rep_int) (rep_pair (rep_slice ag) (rep_pair (rep_slice ah) (rep_pair rep_int (rep_pair rep_int (rep_pair rep_int rep_int))))))) : rep a1 r_ _)) y0 H⟩) _ _ (Heap.le_refl _) ck.has y.lo _ ex29) fun i5 bk i9 d1 a4 cl => ?_
    replace af := af.mono a4
    replace ag := ag.mono a4
    replace ah := ah.mono a4
    replace hE_spans := hE_spans.mono a4
    replace bm := bm.mono a4
    replace bx := bx.mono a4
    replace hM_spans := a4 _ _ _ hM_spans
    obtain rfl := d1
    refine ⟨.one (.c (.bool x29)), rfl, fun dn (eh : Kn 74 [(k, 0), (o, 0), (m, 0), (az, 0)] ((tB 29 x29) :: (tI 28 y.lo) :: (26, .one (.c (.func (.func 95) #[.agg #[.slice a r_.legs.length e, .int .i64 r_.turn.lo, .int .i64 r_.turn.hi, .slice b r_.buses.length f, .slice d r_.spares.length g, .int .i64 r_.unit, .int .i64 r_.gap, .int .i64 r_.fr, .int .i64 r_.to_]] #[]))) :: (tP 8 3 0) :: (K66m12 a r_ e b f d g ac x_v10 ad bm_spans)) dn) => hK _ _ ?_⟩
    have cg : Kn 74 [(k, 0), (o, 0), (m, 0), (az, 0)] ((tB 29 x29) :: (tP 8 3 0) :: (K66m12 a r_ e b f d g ac x_v10 ad bm_spans)) dn := eh.keep [29, 8, 21, 6, 5, 4, 2, 1] (by rfl)
    refine wpFrom_end (by decide) (wp_cond_sv (x29) cg (by kernel_rfl) (fun cb => ?_) (fun cb => ?_))
    ·
     rw [cb, cond_true] at ak
     refine wp_region_from (R_runk 0 3 [32, 30, 21, 6, 4, 2, 1] ((tI 32 y.lo) :: (tS 30 ac x_v10.length ad) :: (K66m15 a r_ e b f d g bm_spans)) cg cl.plOk (by kernel_rfl) fun ib ei => ?_)
     refine wpFrom_loud _ rfl (rfl) fun K hK => ?_
     refine wp_buildSlice 3 1 [.int .i64 y.lo] ei cl rfl rfl (by decide) (by kernel_rfl) (by rfl) (by rfl) rfl (by decide) fun bu g0 ho (ej : Kn 74 [(k, 0), (o, 0), (m, 0), (az, 0)] ((tS 33 bu 1 1) :: (tI 32 y.lo) :: (tS 30 ac x_v10.length ad) :: (K66m15 a r_ e b f d g bm_spans)) g0) (dd : Mem (Fr.put ⟨w, h, noX⟩ m (some (.mapIter (some bm_spans) cl_spans (Array.push ax bb) cl_spans))) bk [(k, 0), (o, 0), (m, 0), (az, 0)] [⟨(K66c7 a r_ e b f d g), some 43⟩, ⟨[.int .i64 0, .int .i64 0], some 126⟩, ⟨[], none⟩, ⟨(K66c1 y), some 39⟩] [⟨ac, x_v10.length, ad, 3, 1, ap, 0⟩, ⟨bu, 1, 1, 3, 1, ([.int .i64 y.lo] : List Value), 0⟩] ho) => ?_
     have cf : Cells bk ([y.lo] : List Int) ([.int .i64 y.lo] : List Value) := ⟨_, _, rfl, (rep_int : rep bk (y.lo : Int) _), rfl⟩
     refine hK _ _ ?_
     obtain ⟨x34, ex34, ak⟩ := ak
     obtain ⟨cq, f8⟩ := app_some ex34
     refine wpFrom_loud _ rfl (rfl) fun K hK => ?_
     refine wp_append 0 8 1 _ (x34.length) _ ([.int .i64 y.lo] : List Value) ej dd rfl rfl (by decide) rfl (by rfl) (by kernel_rfl) (by rfl) (by rfl) (Cells.len cf) (dd.rowCell (i := 1) rfl) cf.one (by rw [cq]; simp) (by rw [cq]; exact f8) (by decide) fun bv bw c5 g1 hp ec (el : Kn 74 [(k, 0), (o, 0), (m, 0), (az, 0)] [(34, .one (.c (.slice bv x34.length bw))), (33, .one (.c (.slice bu 1 1))), (32, .one (.c (.int .i64 y.lo))), (30, .one (.c (.slice ac x_v10.length ad))), (21, .one (.c (.ptr 2 0))), (6, .one (.c (.func (.func 95) #[.agg #[.slice a r_.legs.length e, .int .i64 r_.turn.lo, .int .i64 r_.turn.hi, .slice b r_.buses.length f, .slice d r_.spares.length g, .int .i64 r_.unit, .int .i64 r_.gap, .int .i64 r_.fr, .int .i64 r_.to_]] #[]))), (4, .one (.c (.ptr 1 0))), (2, .one (.c (.ptr 0 0))), (1, .one (.c (.map (some bm_spans))))] g1) (de : Mem (Fr.put ⟨w, h, noX⟩ m (some (.mapIter (some bm_spans) cl_spans (Array.push ax bb) cl_spans))) bk [(k, 0), (o, 0), (m, 0), (az, 0)] [⟨[.slice a r_.legs.length e, .int .i64 r_.turn.lo, .int .i64 r_.turn.hi, .slice b r_.buses.length f, .slice d r_.spares.length g, .int .i64 r_.unit, .int .i64 r_.gap, .int .i64 r_.fr, .int .i64 r_.to_], some 43⟩, ⟨[.int .i64 0, .int .i64 0], some 126⟩, ⟨[], none⟩, ⟨[.int .i64 y.lo, .int .i64 y.hi], some 39⟩] [⟨bv, x34.length, bw, 3, 1, (ap ++ ([.int .i64 y.lo] : List Value)), c5⟩, ⟨bu, 1, 1, 3, 1, ([.int .i64 y.lo] : List Value), 0⟩] hp) => ?_
     have d6 : Cells bk x34 (ap ++ ([.int .i64 y.lo] : List Value)) := by rw [cq]; exact Cells.append bm cf
     obtain rfl : c5 = 0 := Nat.le_zero.1 ec
     refine hK _ _ ?_
     refine R_runk 5 1 [5, 21, 6, 4, 2, 1] ((tS 5 bv x34.length bw) :: (K66m15 a r_ e b f d g bm_spans)) el de.plOk (by kernel_rfl) fun ic em => ?_
     refine wpFrom_end (by decide) ?_
     exact Exists.intro bj ⟨Nat.lt_succ_self _, Exists.intro x34 ⟨ct, bv, bw, (ap ++ ([.int .i64 y.lo] : List Value)), (Array.push ax bb), _, _, rfl, ((em.keep [21, 6, 5, 4, 2, 1] (by rfl)).cut 3 (by kernel_rfl)), ((de.cutRw 1).cutPl 3 (by kernel_rfl)), (Heap.le_trans a9 a4), d6, bx, ak⟩⟩
    ·
     rw [cb, cond_false] at ak
     refine wp_skip ?_
     exact Exists.intro bj ⟨Nat.lt_succ_self _, Exists.intro x_v10 ⟨ct, ac, ad, ap, (Array.push ax bb), _, _, rfl, ((cg.keep [21, 6, 5, 4, 2, 1] (by rfl)).cut 3 (by kernel_rfl)), (cl.cutPl 3 (by kernel_rfl)), (Heap.le_trans a9 a4), bm, bx, ak⟩⟩
 ·
  rintro _ hq ⟨p, aq, ar, bc, cv, c0, a0, rfl, en, gb, bn, d9, h7, H⟩
  rw [d0] at H
  replace af := af.mono bn
  replace ag := ag.mono bn
  replace ah := ah.mono bn
  replace hE_spans := hE_spans.mono bn
  replace hM_spans := bn _ _ _ hM_spans
  have df : Mem ⟨w, h, noX⟩ a0 [(k, 0), (o, 0), (m, 0)] (K66p9 a r_ e b f d g) [⟨aq, p.1.length, ar, 3, 1, bc, 0⟩] hq := Mem.dropX d4 gb
  refine wp_seq (wp_region_from (R_runk 0 3 [37, 5, 4, 2, 1] ((tA 37 [.int .i64 r_.fr, .int .i64 0]) :: (tS 5 aq p.1.length ar) :: (K66m16 bm_spans)) en df.plOk (by kernel_rfl) fun ie eo => ?_))
  refine wpFrom_loud _ rfl (rfl) fun K hK => ?_
  refine wp_alloc [.int .i64 0, .int .i64 0] eo df rfl rfl (by decide) (by kernel_rfl) (by kernel_rfl) (by kernel_rfl) fun u dp hr (ep : Kn 74 (K66e4 k o m u) ((tP 9 3 0) :: (tA 37 [.int .i64 r_.fr, .int .i64 0]) :: (tS 5 aq p.1.length ar) :: (K66m16 bm_spans)) dp) (gc : Mem ⟨w, h, noX⟩ a0 (K66e4 k o m u) [⟨(K66c7 a r_ e b f d g), some 43⟩, ⟨[.int .i64 0, .int .i64 0], some 126⟩, ⟨[], none⟩, ⟨[.int .i64 0, .int .i64 0], some 126⟩] [⟨aq, p.1.length, ar, 3, 1, bc, 0⟩] hr) => hK _ _ ?_
  refine wpFrom_loud _ rfl (rfl) fun K hK => ?_
  refine wp_store 3 0 (.agg [.int .i64 r_.fr, .int .i64 0]) [.int .i64 r_.fr, .int .i64 0] ep gc rfl rfl (by rfl) (by rfl) (by rfl) (by kernel_rfl) (by kernel_rfl) (by rfl) fun hs er (dg : Mem ⟨w, h, noX⟩ a0 (K66e4 k o m u) [⟨(K66c7 a r_ e b f d g), some 43⟩, ⟨[.int .i64 0, .int .i64 0], some 126⟩, ⟨[], none⟩, ⟨[.int .i64 r_.fr, .int .i64 0], some 126⟩] [⟨aq, p.1.length, ar, 3, 1, bc, 0⟩] hs) => hK _ _ ?_
  have es : Kn 74 (K66e4 k o m u) ((tP 9 3 0) :: (tS 5 aq p.1.length ar) :: (K66m16 bm_spans)) dp := er.keep [9, 5, 4, 2, 1] (by rfl)
  refine wpFrom_end (by decide) (wp_seq (wp_seq (wp_region_from (R_runk 0 3 [40, 39, 38, 9, 4, 2, 1] ((tI 40 0) :: (tI 39 ((p.1.length : Nat) : Int)) :: (tS 38 aq p.1.length ar) :: (tP 9 3 0) :: (K66m16 bm_spans)) es dg.plOk (by kernel_rfl) fun ig et => ?_))))
  refine wpFrom_end (by decide) ?_
  obtain ⟨c2, dy, H⟩ := ptK (G := control_Route_worst_l2 n r_ spans p p.1 0 r_.fr 0) H
  refine wp_mid' (fun a' w' => ∃ (aj : (List Int) × Int × Int) (b7 : Option Addr) (b8 : Nat) (b6 : List Value) (ca : Nat) (cw : Array Value) (bf : Heap), a' = ⟨cw, []⟩ ∧ Kn 74 (K66e4 k o m u) [(tP 9 3 0), (tP 4 1 0)] cw ∧ Mem ⟨w, h, noX⟩ bf (K66e4 k o m u) [⟨(K66c7 a r_ e b f d g), some 43⟩, ⟨[.int .i64 0, .int .i64 0], some 126⟩, ⟨[], none⟩, ⟨(K66c3 aj), some 126⟩] [⟨b7, aj.1.length, b8, 3, 1, b6, ca⟩] w' ∧ Heap.le a0 bf ∧ Cells bf aj.1 b6 ∧ c2 aj) ?_ ?_
  ·
   refine wp_block ?_
   refine wp_loop_n (fun gw a' w' => ∃ (x_v20 : List Int) (x_v21 : Int) (x_v22 : Int) (x_v23 : Int) (q : Option Addr) (s : Nat) (ae : List Value) (b9 : Nat) (cx : Array Value) (bz : Heap), a' = ⟨cx, []⟩ ∧ Kn 74 (K66e4 k o m u) (K66m13 x_v21 p q x_v20 s bm_spans) cx ∧ Mem ⟨w, h, noX⟩ bz (K66e4 k o m u) [⟨(K66c7 a r_ e b f d g), some 43⟩, ⟨[.int .i64 0, .int .i64 0], some 126⟩, ⟨[], none⟩, ⟨[.int .i64 x_v22, .int .i64 x_v23], some 126⟩] [⟨q, x_v20.length, s, 3, 1, ae, b9⟩] w' ∧ Heap.le a0 bz ∧ Cells bz x_v20 ae ∧ control_Route_worst_l2 gw r_ spans p x_v20 x_v21 x_v22 x_v23 c2) n ?_ ?_
   ·
    exact Exists.intro p.1 ⟨0, r_.fr, 0, aq, ar, bc, 0, _, _, rfl, (et.keep [40, 39, 38, 9, 4, 2, 1] (by rfl)), dg, (Heap.le_refl _), d9, H⟩
   ·
    rintro bi _ du ⟨x_v20, x_v21, x_v22, x_v23, q, s, ae, b9, cx, bz, rfl, ev, b0, a7, al, ai⟩
    obtain _ | bi := bi
    ·
     rw [control_Route_worst_l2] at ai; exact ai.elim
    rw [control_Route_worst_l2] at ai
    replace af := af.mono a7
    replace ag := ag.mono a7
    replace ah := ah.mono a7
    replace hE_spans := hE_spans.mono a7
    replace hM_spans := a7 _ _ _ hM_spans
    refine wp_seq (wp_region_from (R_runk 0 1 [41, 40, 39, 38, 9, 4, 2, 1] ((tB 41 (decide (x_v21 < ((p.1.length : Nat) : Int)))) :: (K66m13 x_v21 p q x_v20 s bm_spans)) ev b0.plOk (by kernel_rfl) fun ih ch => ?_))
    refine wpFrom_end (by decide) (wp_seq (wp_cond_sv (decide (x_v21 < ((p.1.length : Nat) : Int))) ch (by kernel_rfl) (fun cc => ?_) (fun cc => ?_)))
    ·
     rw [cc, cond_true] at ai
     refine wp_skip (wp_seq (wp_block (wp_seq (wp_region_from ?_))))
     obtain ⟨bg, a8, gp, cm⟩ := b0.settle (i := 0) rfl
     replace af := af.mono a8
     replace ag := ag.mono a8
     replace ah := ah.mono a8
     replace hE_spans := hE_spans.mono a8
     replace al := al.mono a8
     replace hM_spans := a8 _ _ _ hM_spans
     replace cm : Mem ⟨w, h, noX⟩ bg (K66e4 k o m u) [⟨(K66c7 a r_ e b f d g), some 43⟩, ⟨[.int .i64 0, .int .i64 0], some 126⟩, ⟨[], none⟩, ⟨[.int .i64 x_v22, .int .i64 x_v23], some 126⟩] (K66r8 q x_v20 s ae) du := cm
     have a6 : RepS bg q s x_v20 := ⟨_, al, gp, b0.rowCap (i := 0) rfl⟩
     obtain ⟨x42, ex42, ai⟩ := ai
     obtain ⟨gj, gm, gv⟩ := idx_some ex42
     obtain ⟨aa, ab, h5, d5, gu, d7⟩ := a6.get (by decide) gv
     obtain rfl := gu
     have b1 : Mem ⟨w, h, noX⟩ bg [(k, 0), (o, 0), (m, 0), (u, 0), (aa, ab + (x_v21 : Int).toNat * 1)] [⟨(K66c7 a r_ e b f d g), some 43⟩, ⟨[.int .i64 0, .int .i64 0], some 126⟩, ⟨[], none⟩, ⟨[.int .i64 x_v22, .int .i64 x_v23], some 126⟩, ⟨[.int .i64 x42], none⟩] (K66r8 q x_v20 s ae) du := cm.addPlc (cs := [.int .i64 x42]) (fun j c hj => d7 j _ (map_get hj)) rfl (by kernel_rfl) (by kernel_rfl)
     refine R_index 0 (x_v21) rfl rfl (rfl) rfl (by decide) ch (by rfl) (by rfl) (by rfl) d5 (by rfl) gj gm (by kernel_rfl) fun g2 (ex : Kn 74 [(k, 0), (o, 0), (m, 0), (u, 0), (aa, ab + (x_v21 : Int).toNat * 1)] ((tP 42 4 0) :: (tB 41 (decide (x_v21 < ((p.1.length : Nat) : Int)))) :: (K66m13 x_v21 p q x_v20 s bm_spans)) g2) => ?_
     refine R_runk 1 2 [11, 40, 39, 38, 9, 4, 2, 1] ((tI 11 x42) :: (K66m13 x_v21 p q x_v20 s bm_spans)) ex b1.plOk (by kernel_rfl) fun ii ey => ?_
     refine wpFrom_end (by decide) (wp_seq (wp_region_from (R_runk 0 3 [12, 11, 40, 39, 38, 9, 4, 2, 1] ((tI 12 r_.to_) :: (tI 11 x42) :: (K66m13 x_v21 p q x_v20 s bm_spans)) ey b1.plOk (by kernel_rfl) fun ij ez => ?_)))
     refine wpFrom_end (by decide) (wp_seq (wp_seq (wp_region_from (R_runk 0 1 [46, 12, 11, 40, 39, 38, 9, 4, 2, 1] ((46, .one (.c (.map (some bm_spans)))) :: (tI 12 r_.to_) :: (tI 11 x42) :: (K66m13 x_v21 p q x_v20 s bm_spans)) ez b1.plOk (by kernel_rfl) fun ik e0 => ?_))))
     refine wpFrom_loud _ rfl (rfl) fun K hK => ?_
     refine wp_rangeP (KT := 3) (E := 39) (l := spans.l) e0 b1 rfl rfl (by decide) (by rfl) (by kernel_rfl) hM_spans hE_spans (by kernel_rfl) fun x dr hu d3 dw (e1 : Kn 74 (K66e5 k o m u aa ab x_v21 x) ((tP 47 5 0) :: (46, .one (.c (.map (some bm_spans)))) :: (tI 12 r_.to_) :: (tI 11 x42) :: (K66m13 x_v21 p q x_v20 s bm_spans)) dr) (gd : Mem (Fr.put ⟨w, h, noX⟩ x (some (.mapIter (some bm_spans) cl_spans #[] cl_spans))) bg (K66e5 k o m u aa ab x_v21 x) (K66p10 a r_ e b f d g x_v22 x_v23 x42) (K66r8 q x_v20 s ae) hu) => hK _ _ ?_
     have e2 : Kn 74 (K66e5 k o m u aa ab x_v21 x) ((tP 47 5 0) :: (tI 12 r_.to_) :: (tI 11 x42) :: (K66m13 x_v21 p q x_v20 s bm_spans)) dr := e1.keep [47, 12, 11, 40, 39, 38, 9, 4, 2, 1] (by rfl)
     refine wpFrom_end (by decide) ?_
     obtain ⟨c3, dz, ai⟩ := ptK (G := control_Route_worst_l3 bi x42 r_.to_ spans.l) ai
     refine wp_mid' (fun a' w' => ∃ (ao : Int × (List (Int × Rg))) (cu : Array Nat) (cy : Array Value) (bh : Heap), a' = ⟨cy, []⟩ ∧ Kn 74 (K66e5 k o m u aa ab x_v21 x) ((tI 12 ao.1) :: (tI 11 x42) :: (K66m13 x_v21 p q x_v20 s bm_spans)) cy ∧ Mem (Fr.put ⟨w, h, noX⟩ x (some (.mapIter (some bm_spans) cl_spans cu cl_spans))) bh (K66e5 k o m u aa ab x_v21 x) (K66p10 a r_ e b f d g x_v22 x_v23 x42) (K66r8 q x_v20 s ae) w' ∧ Heap.le bg bh ∧ IterS bh es_spans cu ao.2 ∧ c3 ao) ?_ ?_
     ·
      refine wp_block ?_
      refine wp_loop_n (fun gx a' w' => ∃ (x_v30 : Int) (x_v31 : List (Int × Rg)) (aw : Array Nat) (cz : Array Value) (au : Heap), a' = ⟨cz, []⟩ ∧ Kn 74 (K66e5 k o m u aa ab x_v21 x) (K66m17 x_v30 x42 x_v21 p q x_v20 s bm_spans) cz ∧ Mem (Fr.put ⟨w, h, noX⟩ x (some (.mapIter (some bm_spans) cl_spans aw cl_spans))) au (K66e5 k o m u aa ab x_v21 x) (K66p10 a r_ e b f d g x_v22 x_v23 x42) (K66r8 q x_v20 s ae) w' ∧ Heap.le bg au ∧ IterS au es_spans aw x_v31 ∧ control_Route_worst_l3 gx x42 x_v30 x_v31 c3) bi ?_ ?_
      ·
       exact Exists.intro r_.to_ ⟨spans.l, #[], _, _, rfl, (e2.keep [47, 12, 11, 40, 39, 38, 9, 4, 2, 1] (by rfl)), gd, (Heap.le_refl _), dw, ai⟩
      ·
       rintro bt _ ja ⟨x_v30, x_v31, aw, cz, au, rfl, e4, cn, a2, c6, am⟩
       obtain _ | bt := bt
       ·
        rw [control_Route_worst_l3] at am; exact am.elim
       rw [control_Route_worst_l3] at am
       replace af := af.mono a2
       replace ag := ag.mono a2
       replace ah := ah.mono a2
       replace hE_spans := hE_spans.mono a2
       replace a6 := a6.mono a2
       replace hM_spans := a2 _ _ _ hM_spans
       replace al := al.mono a2
       refine wp_seq (wp_region_from (wpFrom_loud _ rfl (rfl) fun K hK => ?_))
       refine wp_nextP e4 cn rfl rfl (by decide) (by rfl) (by rfl) hM_spans hE_spans c6 ?_ ?_
       ·
        intro gn g3 (e5 : Kn 74 (K66e5 k o m u aa ab x_v21 x) ((48, .tup [.c (.bool false)]) :: (K66m17 x_v30 x42 x_v21 p q x_v20 s bm_spans)) g3)
        replace am := am.1 gn
        refine hK _ _ ?_
        refine R_runk 1 1 [49, 47, 12, 11, 40, 39, 38, 9, 4, 2, 1] ((tB 49 false) :: (K66m17 x_v30 x42 x_v21 p q x_v20 s bm_spans)) e5 cn.plOk (by kernel_rfl) fun im c9 => ?_
        refine wpFrom_end (by decide) (wp_seq (wp_cond_sv false c9 (by kernel_rfl) (fun hb => ?_) (fun hb => ?_)))
        ·
         cases hb
        refine wp_exit ?_
        exact Exists.intro (x_v30, x_v31) ⟨aw, _, _, rfl, (c9.keep [12, 11, 40, 39, 38, 9, 4, 2, 1] (by rfl)), cn, a2, c6, am⟩
       ·
        intro ba br z i6 cr gk gr ea be g5 hw f4 (b2 : Mem (Fr.put ⟨w, h, noX⟩ x (some (.mapIter (some bm_spans) cl_spans (Array.push aw ba) cl_spans))) au (K66e5 k o m u aa ab x_v21 x) (K66p10 a r_ e b f d g x_v22 x_v23 x42) (K66r8 q x_v20 s ae) hw)
        replace am := am.2 br z cr gk
        obtain ⟨_, rfl, ⟨_, _, rfl, rfl, rfl⟩⟩ := gr
        have e6 : Kn 74 (K66e5 k o m u aa ab x_v21 x) ((48, .tup [.c (.bool true), .c (.int .i64 br), .agg (K66c2 z)]) :: (K66m17 x_v30 x42 x_v21 p q x_v20 s bm_spans)) g5 := f4 (.tup [.c (.bool true), .c (.int .i64 br), .agg (K66c2 z)]) rfl
        refine hK _ _ ?_
        refine R_runk 1 1 [49, 47, 12, 11, 40, 39, 38, 9, 4, 2, 1] ((tB 49 true) :: (K66m17 x_v30 x42 x_v21 p q x_v20 s bm_spans)) e6 b2.plOk (by kernel_rfl) fun io da => ?_
        refine wpFrom_end (by decide) (wp_seq (wp_cond_sv true da (by kernel_rfl) (fun hb => ?_) (fun hb => ?_)))
        rotate_left
        ·
         cases hb
        refine wp_skip (wp_block (wp_seq (wp_region_from (wpFrom_loud _ rfl (rfl) fun K hK => ?_))))
        refine wp_entryP da b2 rfl rfl (by decide) (by rfl) (by rfl) hM_spans hE_spans ea fun g6 f5 => ?_
        have e7 : Kn 74 (K66e5 k o m u aa ab x_v21 x) ((50, .tup [.c (.int .i64 br), .agg (K66c2 z)]) :: (tB 49 true) :: (K66m17 x_v30 x42 x_v21 p q x_v20 s bm_spans)) g6 := f5 (.tup [.c (.int .i64 br), .agg (K66c2 z)]) rfl
        refine hK _ _ ?_
        refine R_runk 1 1 [51, 47, 12, 11, 40, 39, 38, 9, 4, 2, 1] ((tA 51 (K66c2 z)) :: (K66m17 x_v30 x42 x_v21 p q x_v20 s bm_spans)) e7 b2.plOk (by kernel_rfl) fun ip e9 => ?_
        refine wpFrom_loud _ rfl (rfl) fun K hK => ?_
        refine wp_alloc [.int .i64 0, .int .i64 0] e9 b2 rfl rfl (by decide) (by kernel_rfl) (by kernel_rfl) (by kernel_rfl) fun ay ds hx (fa : Kn 74 (K66e6 k o m u aa ab x_v21 x ay) ((tP 14 6 0) :: (tA 51 (K66c2 z)) :: (K66m17 x_v30 x42 x_v21 p q x_v20 s bm_spans)) ds) (gf : Mem (Fr.put ⟨w, h, noX⟩ x (some (.mapIter (some bm_spans) cl_spans (Array.push aw ba) cl_spans))) au (K66e6 k o m u aa ab x_v21 x ay) [⟨(K66c7 a r_ e b f d g), some 43⟩, ⟨[.int .i64 0, .int .i64 0], some 126⟩, ⟨[], none⟩, ⟨[.int .i64 x_v22, .int .i64 x_v23], some 126⟩, ⟨[.int .i64 x42], none⟩, ⟨[], none⟩, ⟨[.int .i64 0, .int .i64 0], some 39⟩] (K66r8 q x_v20 s ae) hx) => hK _ _ ?_
        refine wpFrom_loud _ rfl (rfl) fun K hK => ?_
        refine wp_store 6 0 (.agg (K66c2 z)) (K66c2 z) fa gf rfl rfl (by rfl) (by rfl) (by rfl) (by kernel_rfl) (by kernel_rfl) (by rfl) fun hy fb (b3 : Mem (Fr.put ⟨w, h, noX⟩ x (some (.mapIter (some bm_spans) cl_spans (Array.push aw ba) cl_spans))) au (K66e6 k o m u aa ab x_v21 x ay) (K66p11 a r_ e b f d g x_v22 x_v23 x42 z) (K66r8 q x_v20 s ae) hy) => hK _ _ ?_
        have fc : Kn 74 (K66e6 k o m u aa ab x_v21 x ay) ((tP 14 6 0) :: (K66m17 x_v30 x42 x_v21 p q x_v20 s bm_spans)) ds := fb.keep [14, 47, 12, 11, 40, 39, 38, 9, 4, 2, 1] (by rfl)
        refine wpFrom_end (by decide) (wp_seq (wp_region_from (R_runk 0 4 [55, 14, 47, 12, 11, 40, 39, 38, 9, 4, 2, 1] ((tB 55 (decide (z.lo > x42))) :: (tP 14 6 0) :: (K66m17 x_v30 x42 x_v21 p q x_v20 s bm_spans)) fc b3.plOk (by kernel_rfl) fun iq ci => ?_)))
        refine wpFrom_end (by decide) (wp_cond_sv (decide (z.lo > x42)) ci (by kernel_rfl) (fun cd => ?_) (fun cd => ?_))
        ·
         rw [cd, cond_true] at am
         refine wp_region_from (R_runk 0 3 [58, 56, 47, 11, 40, 39, 38, 9, 4, 2, 1] ((tI 58 z.hi) :: (tI 56 x_v30) :: (tP 47 5 0) :: (tI 11 x42) :: (K66m13 x_v21 p q x_v20 s bm_spans)) ci b3.plOk (by kernel_rfl) fun ir fd => ?_)
         refine wpFrom_loud _ rfl (rfl) fun K hK => ?_
         refine wp_buildSlice 3 1 [.int .i64 x_v30, .int .i64 z.hi] fd b3 rfl rfl (by decide) (by kernel_rfl) (by rfl) (by rfl) rfl (by decide) fun bd g7 dv (fe : Kn 74 (K66e6 k o m u aa ab x_v21 x ay) ((tS 59 bd 2 2) :: (tI 58 z.hi) :: (tI 56 x_v30) :: (tP 47 5 0) :: (tI 11 x42) :: (K66m13 x_v21 p q x_v20 s bm_spans)) g7) (di : Mem (Fr.put ⟨w, h, noX⟩ x (some (.mapIter (some bm_spans) cl_spans (Array.push aw ba) cl_spans))) au (K66e6 k o m u aa ab x_v21 x ay) (K66p11 a r_ e b f d g x_v22 x_v23 x42 z) [⟨q, x_v20.length, s, 3, 1, ae, (ae : List Value).length⟩, ⟨bd, 2, 2, 3, 1, ([.int .i64 x_v30, .int .i64 z.hi] : List Value), 0⟩] dv) => ?_
         have bl : Cells au ([x_v30, z.hi] : List Int) ([.int .i64 x_v30, .int .i64 z.hi] : List Value) := ⟨_, _, rfl, (rep_int : rep au (x_v30 : Int) _), ⟨_, _, rfl, (rep_int : rep au (z.hi : Int) _), rfl⟩⟩
         refine hK _ _ ?_
         obtain ⟨c8, a3, gq, b4⟩ := di.settle (i := 1) rfl
         replace af := af.mono a3
         replace ag := ag.mono a3
         replace ah := ah.mono a3
         replace hE_spans := hE_spans.mono a3
         replace a6 := a6.mono a3
         replace al := al.mono a3
         replace bl := bl.mono a3
         replace be := be.mono a3
         replace hM_spans := a3 _ _ _ hM_spans
         replace b4 : Mem (Fr.put ⟨w, h, noX⟩ x (some (.mapIter (some bm_spans) cl_spans (Array.push aw ba) cl_spans))) c8 (K66e6 k o m u aa ab x_v21 x ay) (K66p11 a r_ e b f d g x_v22 x_v23 x42 z) [⟨q, x_v20.length, s, 3, 1, ae, (ae : List Value).length⟩, ⟨bd, 2, 2, 3, 1, ([.int .i64 x_v30, .int .i64 z.hi] : List Value), (([.int .i64 x_v30, .int .i64 z.hi] : List Value) : List Value).length⟩] dv := b4
         have cp : RepS c8 bd 2 ([x_v30, z.hi] : List Int) := ⟨_, bl, gq, di.rowCap (i := 1) rfl⟩
         obtain ⟨x60, ex60, am⟩ := am
         refine wpFrom_loud _ rfl (rfl) fun K hK => ?_
         refine wp_call [.c (.slice bd 2 2)] _ fe b4 rfl rfl (by decide) (by rfl) rfl (fun _ _ => by kernel_rfl) (control_earliest_ok bt b4.has ([x_v30, z.hi] : List Int) cp ex60) fun i7 h8 jb d2 av dj => ?_
         replace af := af.mono av
         replace ag := ag.mono av
         replace ah := ah.mono av
         replace hE_spans := hE_spans.mono av
         replace a6 := a6.mono av
         replace cp := cp.mono av
         replace al := al.mono av
         replace bl := bl.mono av
         replace be := be.mono av
         replace hM_spans := av _ _ _ hM_spans
         obtain rfl := d2
         refine ⟨.one (.c (.int .i64 x60)), rfl, fun g8 (ff : Kn 74 (K66e6 k o m u aa ab x_v21 x ay) ((tI 60 x60) :: (tS 59 bd 2 2) :: (tI 58 z.hi) :: (tI 56 x_v30) :: (tP 47 5 0) :: (tI 11 x42) :: (K66m13 x_v21 p q x_v20 s bm_spans)) g8) => hK _ _ ?_⟩
         refine R_runk 5 1 [12, 47, 11, 40, 39, 38, 9, 4, 2, 1] ((tI 12 x60) :: (tP 47 5 0) :: (tI 11 x42) :: (K66m13 x_v21 p q x_v20 s bm_spans)) ff dj.plOk (by kernel_rfl) fun iv fg => ?_
         refine wpFrom_end (by decide) ?_
         exact Exists.intro bt ⟨Nat.lt_succ_self _, Exists.intro x60 ⟨cr, (Array.push aw ba), _, _, rfl, ((fg.keep [47, 12, 11, 40, 39, 38, 9, 4, 2, 1] (by rfl)).cut 6 (by kernel_rfl)), ((dj.cutRw 1).cutPl 6 (by kernel_rfl)), (Heap.le_trans a2 (Heap.le_trans a3 av)), be, am⟩⟩
        ·
         rw [cd, cond_false] at am
         refine wp_skip ?_
         exact Exists.intro bt ⟨Nat.lt_succ_self _, Exists.intro x_v30 ⟨cr, (Array.push aw ba), _, _, rfl, ((ci.keep [47, 12, 11, 40, 39, 38, 9, 4, 2, 1] (by rfl)).cut 6 (by kernel_rfl)), (b3.cutPl 6 (by kernel_rfl)), a2, be, am⟩⟩
     ·
      rintro _ hz ⟨ao, cu, cy, bh, rfl, fh, gg, a5, h6, ai⟩
      rw [dz] at ai
      replace af := af.mono a5
      replace ag := ag.mono a5
      replace ah := ah.mono a5
      replace hE_spans := hE_spans.mono a5
      replace a6 := a6.mono a5
      replace hM_spans := a5 _ _ _ hM_spans
      replace al := al.mono a5
      have bq : Mem ⟨w, h, noX⟩ bh (K66e5 k o m u aa ab x_v21 x) (K66p10 a r_ e b f d g x_v22 x_v23 x42) (K66r8 q x_v20 s ae) hz := Mem.dropX d3 gg
      refine wp_seq (wp_region_from (R_runk 0 6 [66, 12, 11, 40, 39, 38, 9, 4, 2, 1] ((tB 66 (decide ((IntKind.i64.wrap (ao.1 - x42)) > x_v23))) :: (tI 12 ao.1) :: (tI 11 x42) :: (K66m13 x_v21 p q x_v20 s bm_spans)) fh bq.plOk (by kernel_rfl) fun iw cj => ?_))
      refine wpFrom_end (by decide) (wp_cond_sv (decide ((IntKind.i64.wrap (ao.1 - x42)) > x_v23)) cj (by kernel_rfl) (fun ce => ?_) (fun ce => ?_))
      ·
       rw [ce, cond_true] at ai
       refine wp_region_from (R_runk 0 5 [71, 40, 39, 38, 9, 4, 2, 1] ((tA 71 [.int .i64 x42, .int .i64 (IntKind.i64.wrap (ao.1 - x42))]) :: (K66m13 x_v21 p q x_v20 s bm_spans)) cj bq.plOk (by kernel_rfl) fun g9 fj => ?_)
       refine wpFrom_loud _ rfl (rfl) fun K hK => ?_
       refine wp_store 3 0 (.agg [.int .i64 x42, .int .i64 (IntKind.i64.wrap (ao.1 - x42))]) [.int .i64 x42, .int .i64 (IntKind.i64.wrap (ao.1 - x42))] fj bq rfl rfl (by rfl) (by rfl) (by rfl) (by kernel_rfl) (by kernel_rfl) (by rfl) fun h0 fk (dk : Mem ⟨w, h, noX⟩ bh (K66e5 k o m u aa ab x_v21 x) [⟨(K66c7 a r_ e b f d g), some 43⟩, ⟨[.int .i64 0, .int .i64 0], some 126⟩, ⟨[], none⟩, ⟨[.int .i64 x42, .int .i64 (IntKind.i64.wrap (ao.1 - x42))], some 126⟩, ⟨[.int .i64 x42], none⟩, ⟨[], none⟩] (K66r8 q x_v20 s ae) h0) => hK _ _ ?_
       have fl : Kn 74 (K66e5 k o m u aa ab x_v21 x) (K66m13 x_v21 p q x_v20 s bm_spans) g9 := fk.keep [40, 39, 38, 9, 4, 2, 1] (by rfl)
       refine wpFrom_end (by decide) (wp_region_from (R_runk 0 2 [40, 39, 38, 9, 4, 2, 1] ((tI 40 (IntKind.i64.wrap (x_v21 + 1))) :: (tI 39 ((p.1.length : Nat) : Int)) :: (tS 38 q x_v20.length s) :: (tP 9 3 0) :: (K66m16 bm_spans)) fl dk.plOk (by kernel_rfl) fun iy fm => ?_))
       refine wpFrom_end (by decide) ?_
       exact Exists.intro bi ⟨Nat.lt_succ_self _, Exists.intro x_v20 ⟨(IntKind.i64.wrap (x_v21 + 1)), x42, (IntKind.i64.wrap (ao.1 - x42)), q, s, ae, ((ae : List Value).length), _, _, rfl, ((fm.keep [40, 39, 38, 9, 4, 2, 1] (by rfl)).cut 4 (by kernel_rfl)), (dk.cutPl 4 (by kernel_rfl)), (Heap.le_trans a7 (Heap.le_trans a8 a5)), al, ai⟩⟩
      ·
       rw [ce, cond_false] at ai
       refine wp_skip (wp_region_from (R_runk 0 2 [40, 39, 38, 9, 4, 2, 1] ((tI 40 (IntKind.i64.wrap (x_v21 + 1))) :: (tI 39 ((p.1.length : Nat) : Int)) :: (tS 38 q x_v20.length s) :: (tP 9 3 0) :: (K66m16 bm_spans)) cj bq.plOk (by kernel_rfl) fun iz fn => ?_))
       refine wpFrom_end (by decide) ?_
       exact Exists.intro bi ⟨Nat.lt_succ_self _, Exists.intro x_v20 ⟨(IntKind.i64.wrap (x_v21 + 1)), x_v22, x_v23, q, s, ae, ((ae : List Value).length), _, _, rfl, ((fn.keep [40, 39, 38, 9, 4, 2, 1] (by rfl)).cut 4 (by kernel_rfl)), (bq.cutPl 4 (by kernel_rfl)), (Heap.le_trans a7 (Heap.le_trans a8 a5)), al, ai⟩⟩
    ·
     rw [cc, cond_false] at ai
     refine wp_exit ?_
     exact Exists.intro (x_v20, x_v22, x_v23) ⟨q, s, ae, b9, _, _, rfl, (ch.keep [9, 4] (by rfl)), b0, a7, al, ai⟩
  ·
   rintro _ jc ⟨aj, b7, b8, b6, ca, cw, bf, rfl, fo, dl, bo, h9, H⟩
   rw [dy] at H
   replace af := af.mono bo
   replace ag := ag.mono bo
   replace ah := ah.mono bo
   replace hE_spans := hE_spans.mono bo
   replace hM_spans := bo _ _ _ hM_spans
   refine wp_seq (wp_region_from (R_runk 0 1 [73, 4] [(tA 73 (K66c3 aj)), (tP 4 1 0)] fo dl.plOk (by kernel_rfl) fun ha fq => ?_))
   refine wpFrom_loud _ rfl (rfl) fun K hK => ?_
   refine wp_store 1 0 (.agg (K66c3 aj)) (K66c3 aj) fq dl rfl rfl (by rfl) (by rfl) (by rfl) (by kernel_rfl) (by kernel_rfl) (by rfl) fun h1 fs (gh : Mem ⟨w, h, noX⟩ bf (K66e4 k o m u) [⟨(K66c7 a r_ e b f d g), some 43⟩, ⟨(K66c3 aj), some 126⟩, ⟨[], none⟩, ⟨(K66c3 aj), some 126⟩] [⟨b7, aj.1.length, b8, 3, 1, b6, ca⟩] h1) => hK _ _ ?_
   have ft : Kn 74 (K66e4 k o m u) [(tP 4 1 0)] ha := fs.keep [4] (by rfl)
   refine wpFrom_end (by decide) (wp_ret ?_)
   exact ret_ok (.one (.agg (K66c3 aj))) ft gh (by kernel_rfl) ⟨_, H, ⟨_, rfl, ((rep_pair rep_int rep_int) : rep bf ((Wait.mk aj.2.1 aj.2.2) : Wait) _)⟩⟩

theorem control_earliest_two (n : Nat) (a b : Int) : control_earliest (n + 2) [a, b] = some (min a b) := by
  have h0 : idx [a, b] 0 = some a := by simp [idx]
  have h1 : idx [a, b] 1 = some b := by simp [idx]
  simp only [control_earliest, slices_Min_int_int, slices_Min_int_int_l1, h0, h1, List.length_cons, List.length_nil, Option.bind_some]
  have e1 : IntKind.i64.wrap (1 + 1) = 2 := by decide
  have e2 : decide ((1 : Int) < ((0 + 1 + 1 : Nat) : Int)) = true := by decide
  have e3 : decide ((2 : Int) < ((0 + 1 + 1 : Nat) : Int)) = false := by decide
  have e4 : decide (((0 + 1 + 1 : Nat) : Int) < 1) = false := by decide
  simp only [e1, e2, e3, e4, cond_true, cond_false, Option.bind_some, Option.some.injEq]
  split <;> omega
theorem control_Route_worstE_perm {m e : Int} {l l' : List (Int × Rg)} (h : l.Perm l') : control_Route_worstE m e l = control_Route_worstE m e l' := h.foldl_eq' (fun p _ q _ e => by
  repeat' split
  all_goals omega) _
theorem control_Route_worst_l3_of : ∀ (n : Nat) (rem : List (Int × Rg)) (m e : Int) (K : (Int × List (Int × Rg)) → Prop), rem.length + 3 ≤ n → K (control_Route_worstE m e rem, []) → control_Route_worst_l3 n m e rem K
  | 0, _, _, _, _, h, _ => by omega
  | n + 1, rem, m, e, K, h, hK => by
    rw [control_Route_worst_l3]
    refine ⟨fun h0 => by subst h0; exact hK, fun k x rem' hp => ?_⟩
    have hl := hp.length_eq
    simp at hl
    rw [control_Route_worstE_perm hp] at hK
    by_cases hx : x.lo > m
    · simp only [hx, decide_true, cond_true]
      obtain ⟨n, rfl⟩ : ∃ k, n = k + 2 := ⟨n - 2, by omega⟩
      refine ⟨_, control_earliest_two n e x.hi, control_Route_worst_l3_of _ _ _ _ _ (by omega) ?_⟩
      simpa [control_Route_worstE, hx] using hK
    · simp only [hx, decide_false, cond_false]
      refine control_Route_worst_l3_of _ _ _ _ _ (by omega) ?_
      simpa [control_Route_worstE, hx] using hK
theorem control_Route_worst_l1_of : ∀ (n : Nat) (rem : List (Int × Rg)) (r : Route) (acc : List Int) (K : (List Int × List (Int × Rg)) → Prop), rem.length + 1 ≤ n → acc.length + rem.length ≤ 1000000000 → (∀ ms, List.Perm ms (acc ++ (rem.filter fun p => decide (r.fr ≤ p.2.lo) && decide (p.2.lo ≤ r.to_)).map fun p => p.2.lo) → K (ms, [])) → control_Route_worst_l1 n r acc rem K
  | 0, _, _, _, _, h, _, _ => by omega
  | n + 1, rem, r, acc, K, h, hb, hK => by
    rw [control_Route_worst_l1]
    refine ⟨fun h0 => by subst h0; exact hK _ (by simp), fun k x rem' hp => ?_⟩
    have hl := hp.length_eq
    simp at hl
    have hw : control_Route_looked n r x.lo = some (decide (r.fr ≤ x.lo) && decide (x.lo ≤ r.to_)) := by
      simp only [control_Route_looked, control_within]; by_cases h1 : r.fr ≤ x.lo <;> simp [h1]
    refine ⟨_, hw, ?_⟩
    have hq := (hp.filter fun p => decide (r.fr ≤ p.2.lo) && decide (p.2.lo ≤ r.to_)).map fun p => p.2.lo
    cases hc : (decide (r.fr ≤ x.lo) && decide (x.lo ≤ r.to_)) with
    | true =>
      simp only [cond_true]
      refine ⟨acc ++ [x.lo], by simp [app]; omega, control_Route_worst_l1_of _ _ _ _ _ (by omega) (by simp; omega) fun ms hm => hK ms (hm.trans ?_)⟩
      rw [List.filter_cons_of_pos (by exact hc)] at hq
      simpa using (hq.symm.append_left acc)
    | false =>
      simp only [cond_false]
      refine control_Route_worst_l1_of _ _ _ _ _ (by omega) (by omega) fun ms hm => hK ms (hm.trans ?_)
      rw [List.filter_cons_of_neg (by simp [hc])] at hq
      exact hq.symm.append_left acc
theorem control_Route_worst_l2_of : ∀ (n : Nat) (r : Route) (sp : IMap Int Rg) (s : List Int × List (Int × Rg)) (i : Nat) (b x : Int) (K : (List Int × Int × Int) → Prop), (s.1.length - i) + sp.l.length + 4 ≤ n → s.1.length < 2000000000 → i ≤ s.1.length →
    (∀ b', K (s.1, b', (s.1.drop i).foldl (fun b m => max b (IntKind.i64.wrap (control_Route_worstE m r.to_ sp.l - m))) x)) → control_Route_worst_l2 n r sp s s.1 (i : Int) b x K
  | 0, _, _, _, _, _, _, _, h, _, _, _ => by omega
  | n + 1, r, sp, s, i, b, x, K, h, hb, hi, hK => by
    rw [control_Route_worst_l2]
    by_cases hx : i < s.1.length
    · rw [show decide ((i : Int) < ((s.1.length : Nat) : Int)) = true by simpa using hx]
      have hw : IntKind.i64.wrap ((i : Int) + 1) = ((i + 1 : Nat) : Int) := by
        rw [show ((i + 1 : Nat) : Int) = (i : Int) + 1 by omega]
        simp only [IntKind.wrap]
        simp [IntKind.bits, IntKind.signed]; omega
      refine ⟨s.1[i], by simp [idx, hx], control_Route_worst_l3_of _ _ _ _ _ (by omega) ?_⟩
      rw [List.drop_eq_getElem_cons hx] at hK
      simp only [List.foldl_cons] at hK
      by_cases hg : IntKind.i64.wrap (control_Route_worstE s.1[i] r.to_ sp.l - s.1[i]) > x
      · simp only [hg, decide_true, cond_true, hw]
        rw [show max x (IntKind.i64.wrap (control_Route_worstE s.1[i] r.to_ sp.l - s.1[i])) = IntKind.i64.wrap (control_Route_worstE s.1[i] r.to_ sp.l - s.1[i]) by omega] at hK
        exact control_Route_worst_l2_of _ _ _ _ _ _ _ _ (by omega) hb (by omega) hK
      · simp only [hg, decide_false, cond_false, hw]
        rw [show max x (IntKind.i64.wrap (control_Route_worstE s.1[i] r.to_ sp.l - s.1[i])) = x by omega] at hK
        exact control_Route_worst_l2_of _ _ _ _ _ _ _ _ (by omega) hb (by omega) hK
    · obtain rfl : i = s.1.length := by omega
      simp only [Int.lt_irrefl, decide_false, cond_false]
      simpa using hK b
theorem control_Route_worst_of {n : Nat} {r : Route} {sp : IMap Int Rg} {x : Int} (H : control_Route_worstL n r sp = some x) : control_Route_worst n r sp (fun q => q.long = x) := by
  unfold control_Route_worstL at H
  split at H
  · rename_i hb
    cases H
    refine control_Route_worst_l1_of _ _ _ _ _ (by omega) (by simp; omega) fun ms hm => ?_
    have hl := hm.length_eq
    have hf : ((sp.l.filter fun p => decide (r.fr ≤ p.2.lo) && decide (p.2.lo ≤ r.to_)).map fun p => p.2.lo).length ≤ sp.l.length := by rw [List.length_map]; exact List.length_filter_le _ _
    simp only [List.length_append, List.length_cons, List.length_nil] at hl
    refine control_Route_worst_l2_of n r sp (ms, []) 0 _ _ _ (by simp only; omega) (by simp only; omega) (by simp) fun b' => ?_
    simp only [List.drop_zero]
    have : ∀ (l : List Int) (z : Int), l.foldl (fun b m => max b (IntKind.i64.wrap (control_Route_worstE m r.to_ sp.l - m))) z = (l.map fun m => IntKind.i64.wrap (control_Route_worstE m r.to_ sp.l - m)).foldl (fun b x => max b x) z := by
      intro l z; rw [List.foldl_map]
    rw [this, this]
    exact (hm.map _).foldl_eq' (fun p _ q _ e => by omega) _
  · cases H
theorem control_Route_worstL_ok (n : Nat) {h : Heap} {w : World} (hh : Has h w) (r_ : Route) {cs_r_ : List Value} (hx_r_ : rep h r_ cs_r_) (spans : IMap Int Rg) {bm_spans : Nat} {es_spans : Array MapEntry} {cl_spans : Nat} (hM_spans : h bm_spans 0 = some (encMap es_spans cl_spans)) (hE_spans : Ents h es_spans.toList cl_spans spans.l) {x : Int} (H : control_Route_worstL n r_ spans = some x) :
    Calls Try.prog 66 #[.agg cs_r_.toArray, .map (some bm_spans)] w (Ret (fun _ v => ∃ fr, v = .agg #[.int .i64 fr, .int .i64 x]) h w) :=
  (control_Route_worst_ok n hh r_ hx_r_ spans hM_spans hE_spans (control_Route_worst_of H)).mono fun en w' ⟨v, h', h1, h3, h4, h5, h2⟩ => ⟨v, h', h1, h3, h4, h5, by
    obtain ⟨q, hq, cs, hv, hx⟩ := h2
    obtain ⟨_, _, rfl, rfl, rfl⟩ := hx
    exact ⟨q.fr, by rw [hv, ← hq]; rfl⟩⟩
end Go.Proofs.Ytokchpjijlebiaa
