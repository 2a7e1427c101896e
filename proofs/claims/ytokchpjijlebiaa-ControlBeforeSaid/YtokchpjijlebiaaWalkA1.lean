/- Each call computes its plain function: printed by dec.py. -/
import Derived.Test.YtokchpjijlebiaaProg
import Derived.Test.YtokchpjijlebiaaPure
import Derived.Test.YtokchpjijlebiaaWalkQ
import Derived.Test.YtokchpjijlebiaaWalkR
import Derived.Test.YtokchpjijlebiaaWalkT
import Derived.Test.YtokchpjijlebiaaWalkX
import Derived.Test.YtokchpjijlebiaaWalkY
set_option linter.all false
namespace Go.Proofs.Ytokchpjijlebiaa
open Go Go.RowKit
open Rep (rep)
open KRep (kv)
open VRep (rv)
theorem Deeds.KL : KL Try.prog 102 Deeds := by
  refine KL.struct 5 (by decide) (fun x => [.int .i64 x.holds.a0, .int .i64 x.holds.a1, .int .i64 x.holds.a2, .int .i64 x.holds.a3, .int .i64 x.turns.a0, .int .i64 x.turns.a1, .int .i64 x.turns.a2, .int .i64 x.turns.a3, .bool x.spares.a0, .bool x.spares.a1]) (fun _ => rfl) (by kernel_rfl) (fun _ => by kernel_rfl) (fun _ => by kernel_rfl) fun a b => ⟨(((a.holds.a0 == b.holds.a0) && ((a.holds.a1 == b.holds.a1) && ((a.holds.a2 == b.holds.a2) && ((a.holds.a3 == b.holds.a3) && true)))) && (((a.turns.a0 == b.turns.a0) && ((a.turns.a1 == b.turns.a1) && ((a.turns.a2 == b.turns.a2) && ((a.turns.a3 == b.turns.a3) && true)))) && (((a.spares.a0 == b.spares.a0) && ((a.spares.a1 == b.spares.a1) && true)) && true))), by kernel_rfl, ?_⟩
  rcases a with ⟨⟨a0, a1, a2, a3⟩, ⟨a4, a5, a6, a7⟩, ⟨a8, a9⟩⟩
  rcases b with ⟨⟨b0, b1, b2, b3⟩, ⟨b4, b5, b6, b7⟩, ⟨b8, b9⟩⟩
  simp [and_assoc]

abbrev K56c1 (p1 : Cost) : List SC := [.int .i64 p1.number, .int .i64 p1.sum]
abbrev K56e2 (b_least b_tried b_r_ a u : Nat) : Env := [(b_least, 0), (b_tried, 0), (b_r_, 0), (a, 0), (u, 0)]
abbrev K56c3 (f : Option Addr) (r_ : Route) (m : Nat) (g : Option Addr) (p : Nat) (l : Option Addr) (q : Nat) : List SC := [.slice f r_.legs.length m, .int .i64 r_.turn.lo, .int .i64 r_.turn.hi, .slice g r_.buses.length p, .slice l r_.spares.length q, .int .i64 r_.unit, .int .i64 r_.gap, .int .i64 r_.fr, .int .i64 r_.to_]
abbrev K56c4 (d : Deeds) : List SC := [.int .i64 d.holds.a0, .int .i64 d.holds.a1, .int .i64 d.holds.a2, .int .i64 d.holds.a3, .int .i64 d.turns.a0, .int .i64 d.turns.a1, .int .i64 d.turns.a2, .int .i64 d.turns.a3, .bool d.spares.a0, .bool d.spares.a1]
abbrev K56c5 (f : Option Addr) (r_ : Route) (m : Nat) (g : Option Addr) (p : Nat) (l : Option Addr) (q : Nat) (ae : Option Addr) (x22 : Acts) (ah : Nat) (af : Option Addr) (ai : Nat) (ag : Option Addr) (aj : Nat) : List SC := [.slice f r_.legs.length m, .int .i64 r_.turn.lo, .int .i64 r_.turn.hi, .slice g r_.buses.length p, .slice l r_.spares.length q, .int .i64 r_.unit, .int .i64 r_.gap, .int .i64 r_.fr, .int .i64 r_.to_, .slice ae x22.holds.length ah, .slice af x22.turns.length ai, .slice ag x22.spares.length aj]
abbrev K56p6 (least : Int) (bm_tried : Nat) (f : Option Addr) (r_ : Route) (m : Nat) (g : Option Addr) (p : Nat) (l : Option Addr) (q : Nat) (d : Deeds) (p1 : Cost) : List Plc := [⟨[.int .i64 least], some 3⟩, ⟨[.map (some bm_tried)], none⟩, ⟨(K56c3 f r_ m g p l q), none⟩, ⟨(K56c4 d), some 102⟩, ⟨(K56c1 p1), some 104⟩]
set_option maxRecDepth 100000 in
set_option maxHeartbeats 4000000 in
theorem control_Least_1_ok (n : Nat) {F : Fr} {h : Heap} {w : World} {b_tried b_r_ b_least : Nat} (d : Deeds) {cs_d : List Value} (hx_d : rep h d cs_d) (p1 : Cost) {cs_p1 : List Value} (hx_p1 : rep h p1 cs_p1) (least : Int) (tried : List (Deeds × Int)) {bm_tried : Nat} {es_tried : Array MapEntry} {cl_tried : Nat} (hc_tried : CellsAt h b_tried [.map (some bm_tried)]) (hX_tried : F.X bm_tried = some (.map es_tried cl_tried)) (hE_tried : Ents h es_tried.toList cl_tried tried) (r_ : Route) (hb_r_ : BoxS h b_r_ r_) (hm : Mem F h [(b_least, 0)] [⟨[.int .i64 least], some 3⟩] [] w) {r : (List (Deeds × Int)) × Int} (H : control_Least_1 n d p1 least tried r_ = some r) :
  Calls Try.prog 56 #[.agg cs_d.toArray, .agg cs_p1.toArray, .pointer (some ⟨b_tried, 0, none⟩), .pointer (some ⟨b_r_, 0, none⟩), .pointer (some ⟨b_least, 0, none⟩)] w (RetM fun v w' => ∃ (h' : Heap) (bs : Array MapEntry) (bp : Nat), Heap.le h h' ∧ (v = .tuple #[]) ∧ Ents h' bs.toList bp r.1 ∧ Mem (Fr.put F bm_tried (some (.map bs bp))) h' [(b_least, 0)] [⟨[.int .i64 r.2], some 3⟩] [] w') := by
 obtain ⟨_, _, rfl, ⟨_, _, rfl, rfl, ⟨_, _, rfl, rfl, ⟨_, _, rfl, rfl, rfl⟩⟩⟩, ⟨_, _, rfl, ⟨_, _, rfl, rfl, ⟨_, _, rfl, rfl, ⟨_, _, rfl, rfl, rfl⟩⟩⟩, ⟨_, _, rfl, rfl, rfl⟩⟩⟩ := hx_d
 obtain ⟨_, _, rfl, rfl, rfl⟩ := hx_p1
 obtain ⟨_, hx_r_, hc_r_⟩ := id hb_r_
 obtain ⟨_, _, rfl, ⟨f, m, rfl, y⟩, ⟨_, _, rfl, ⟨_, _, rfl, rfl, rfl⟩, ⟨_, _, rfl, ⟨g, p, rfl, z⟩, ⟨_, _, rfl, ⟨l, q, rfl, aa⟩, ⟨_, _, rfl, rfl, ⟨_, _, rfl, rfl, ⟨_, _, rfl, rfl, rfl⟩⟩⟩⟩⟩⟩⟩ := hx_r_
 refine enter' (e := [(b_least, 0), (b_tried, 0), (b_r_, 0)]) 32 [.agg (K56c4 d), .agg (K56c1 p1), .c (.ptr 1 0), .c (.ptr 2 0), .c (.ptr 0 0)] Try.func56 rfl rfl rfl rfl fun t hk => ?_
 replace hm := hm.addPlc (o := 0) (cs := [.map (some bm_tried)]) (fun j c hj => by rw [Nat.zero_add]; exact hc_tried j _ (map_get hj)) rfl (by kernel_rfl) (by kernel_rfl)
 replace hm := hm.addPlc (o := 0) (cs := [.slice f r_.legs.length m, .int .i64 r_.turn.lo, .int .i64 r_.turn.hi, .slice g r_.buses.length p, .slice l r_.spares.length q, .int .i64 r_.unit, .int .i64 r_.gap, .int .i64 r_.fr, .int .i64 r_.to_]) (fun j c hj => by rw [Nat.zero_add]; exact hc_r_ j _ (map_get hj)) rfl (by kernel_rfl) (by kernel_rfl)
 rw [← Fr.put_self hX_tried] at hm
 replace hm : Mem (Fr.put F bm_tried (some (.map es_tried cl_tried))) h [(b_least, 0), (b_tried, 0), (b_r_, 0)] [⟨[.int .i64 least], some 3⟩, ⟨[.map (some bm_tried)], none⟩, ⟨[.slice f r_.legs.length m, .int .i64 r_.turn.lo, .int .i64 r_.turn.hi, .slice g r_.buses.length p, .slice l r_.spares.length q, .int .i64 r_.unit, .int .i64 r_.gap, .int .i64 r_.fr, .int .i64 r_.to_], none⟩] [] w := hm
 unfold control_Least_1 at H
 refine wp_seq (wp_region_from (wpFrom_loud _ rfl (rfl) fun K hK => ?_))
 refine wp_box (.agg (K56c4 d)) hk hm rfl rfl (by decide) (by kernel_rfl) (by kernel_rfl) (by kernel_rfl) fun a df dp (cr : Kn 32 [(b_least, 0), (b_tried, 0), (b_r_, 0), (a, 0)] [(tP 5 3 0), (tA 0 (K56c4 d)), (tA 1 (K56c1 p1)), (tP 2 1 0), (tP 3 2 0), (tP 4 0 0)] df) (dc : Mem (Fr.put F bm_tried (some (.map es_tried cl_tried))) h [(b_least, 0), (b_tried, 0), (b_r_, 0), (a, 0)] [⟨[.int .i64 least], some 3⟩, ⟨[.map (some bm_tried)], none⟩, ⟨(K56c3 f r_ m g p l q), none⟩, ⟨(K56c4 d), some 102⟩] [] dp) => hK _ _ ?_
 refine wpFrom_loud _ rfl (rfl) fun K hK => ?_
 refine wp_box (.agg (K56c1 p1)) cr dc rfl rfl (by decide) (by kernel_rfl) (by kernel_rfl) (by kernel_rfl) fun u b9 dr (cv : Kn 32 (K56e2 b_least b_tried b_r_ a u) [(tP 6 4 0), (tP 5 3 0), (tA 0 (K56c4 d)), (tA 1 (K56c1 p1)), (tP 2 1 0), (tP 3 2 0), (tP 4 0 0)] b9) (ab : Mem (Fr.put F bm_tried (some (.map es_tried cl_tried))) h (K56e2 b_least b_tried b_r_ a u) (K56p6 least bm_tried f r_ m g p l q d p1) [] dr) => hK _ _ ?_
 have cw : Kn 32 (K56e2 b_least b_tried b_r_ a u) [(tP 5 3 0), (tP 2 1 0), (tP 3 2 0), (tP 4 0 0)] b9 := cv.keep [5, 2, 3, 4] (by rfl)
 refine wpFrom_end (by decide) (wp_seq (wp_seq (wp_region_from (R_runk 0 2 [11, 10, 5, 2, 3, 4] [(tA 11 (K56c4 d)), (10, .one (.c (.map (some bm_tried)))), (tP 5 3 0), (tP 2 1 0), (tP 3 2 0), (tP 4 0 0)] cw ab.plOk (by kernel_rfl) fun dz cx => ?_))))
 obtain ⟨x12, ex12, H⟩ := bnd H
 refine wpFrom_loud _ rfl (rfl) fun K hK => ?_
 refine wp_lookup (KT := 102) (E := 3) (k := (d : Deeds)) (0 : Int) (.agg (K56c4 d)) cx rfl rfl (by decide) (by rfl) (by rfl) (by kernel_rfl) Deeds.KL (ab.ext (Fr.put_X _ _ _)) hE_tried rfl (by kernel_rfl) rfl fun d7 b5 => ?_
 rw [Option.some.inj ex12] at b5 ⊢
 obtain rfl := b5
 refine ⟨.tup [.c (.int .i64 x12.1), .c (.bool x12.2)], rfl, fun di (cy : Kn 32 (K56e2 b_least b_tried b_r_ a u) [(12, .tup [.c (.int .i64 x12.1), .c (.bool x12.2)]), (tA 11 (K56c4 d)), (10, .one (.c (.map (some bm_tried)))), (tP 5 3 0), (tP 2 1 0), (tP 3 2 0), (tP 4 0 0)] di) => hK _ _ ?_⟩
 refine R_runk 3 5 [8, 5, 2, 3, 4] [(tB 8 x12.2), (tP 5 3 0), (tP 2 1 0), (tP 3 2 0), (tP 4 0 0)] cy ab.plOk (by kernel_rfl) fun d0 cz => ?_
 refine wpFrom_end (by decide) (wp_seq (wp_region_from (R_runk 0 2 [16, 5, 2, 3, 4] [(tB 16 (!x12.2)), (tP 5 3 0), (tP 2 1 0), (tP 3 2 0), (tP 4 0 0)] cz ab.plOk (by kernel_rfl) fun d1 bh => ?_)))
 refine wpFrom_end (by decide) (wp_cond_sv ((!x12.2)) bh (by kernel_rfl) (fun bg => ?_) (fun bg => ?_))
 ·
  rw [bg, cond_true] at H
  refine wp_region_G (by kernel_rfl) ?_
  replace ab := ab.drew
  refine wpG_of_D [] (K56e2 b_least b_tried b_r_ a u) (K56p6 least bm_tried f r_ m g p l q d p1) ?_
  refine D_run [0, 1, 2, 3, 4] [4, 3, 2, 1, 0] [21, 20, 19, 18, 17, 5, 2, 4] [(tA 21 (K56c3 f r_ m g p l q)), (tA 20 (K56c4 d)), (tA 19 (K56c3 f r_ m g p l q)), (tA 18 (K56c4 d)), (17, .one (.c (.map (some bm_tried)))), (tP 5 3 0), (tP 2 1 0), (tP 4 0 0)] (fun _ _ _ _ _ h => h) bh ab.plOk (by kernel_rfl) (by rfl) (by kernel_rfl) fun d2 c0 => ?_
  obtain ⟨x22, ex22, H⟩ := bnd H
  refine D_loud 5 rfl (by kernel_rfl) (by decide) (rfl) fun K hK => ?_
  refine wp_call [.agg (K56c4 d), .agg (K56c3 f r_ m g p l q)] _ c0 ab rfl rfl (by decide) (by rfl) rfl (fun _ _ => by kernel_rfl) (control_deeds_acts_ok n ab.has d ((rep_pair (rep_pair rep_int (rep_pair rep_int (rep_pair rep_int rep_int))) (rep_pair (rep_pair rep_int (rep_pair rep_int (rep_pair rep_int rep_int))) (rep_pair rep_bool rep_bool))) : rep h d _) r_ ((rep_pair (rep_slice y) (rep_pair (rep_pair rep_int rep_int) (rep_pair (rep_slice z) (rep_pair (rep_slice aa) (rep_pair rep_int (rep_pair rep_int (rep_pair rep_int rep_int))))))) : rep h r_ _) ex22) fun d8 cl ee ch aq bc => ?_
  replace hc_tried := hc_tried.mono aq
  replace y := y.mono aq
  replace z := z.mono aq
  replace aa := aa.mono aq
  replace hb_r_ := hb_r_.mono aq
  replace hE_tried := hE_tried.mono aq
  obtain ⟨_, rfl, ⟨_, _, rfl, ⟨ae, ah, rfl, a8⟩, ⟨_, _, rfl, ⟨af, ai, rfl, a9⟩, ⟨ag, aj, rfl, ba⟩⟩⟩⟩ := ch
  refine ⟨.one (.agg [.slice ae x22.holds.length ah, .slice af x22.turns.length ai, .slice ag x22.spares.length aj]), rfl, fun dj (c1 : Kn 32 (K56e2 b_least b_tried b_r_ a u) [(tA 22 [.slice ae x22.holds.length ah, .slice af x22.turns.length ai, .slice ag x22.spares.length aj]), (tA 21 (K56c3 f r_ m g p l q)), (tA 20 (K56c4 d)), (tA 19 (K56c3 f r_ m g p l q)), (tA 18 (K56c4 d)), (17, .one (.c (.map (some bm_tried)))), (tP 5 3 0), (tP 2 1 0), (tP 4 0 0)] dj) => hK _ _ bc.plOk ?_⟩
  refine D_run [6] [6, 5, 4, 3, 2, 1, 0] [23, 18, 17, 5, 2, 4] [(tA 23 (K56c5 f r_ m g p l q ae x22 ah af ai ag aj)), (tA 18 (K56c4 d)), (17, .one (.c (.map (some bm_tried)))), (tP 5 3 0), (tP 2 1 0), (tP 4 0 0)] (fun _ _ _ _ _ h => h) c1 bc.plOk (by kernel_rfl) (by rfl) (by kernel_rfl) fun d3 c2 => ?_
  obtain ⟨x24, ex24, H⟩ := bnd H
  refine D_loud 7 rfl (by kernel_rfl) (by decide) (rfl) fun K hK => ?_
  refine wp_call [.agg (K56c5 f r_ m g p l q ae x22 ah af ai ag aj)] _ c2 bc rfl rfl (by decide) (by rfl) rfl (fun _ _ => by kernel_rfl) (control_worked_waits_ok n bc.has (Worked.mk r_ x22) ((rep_pair (rep_pair (rep_slice y) (rep_pair (rep_pair rep_int rep_int) (rep_pair (rep_slice z) (rep_pair (rep_slice aa) (rep_pair rep_int (rep_pair rep_int (rep_pair rep_int rep_int))))))) (rep_pair (rep_slice a8) (rep_pair (rep_slice a9) (rep_slice ba)))) : rep cl (Worked.mk r_ x22) _) ex24) fun d9 dv ef ci ad bj => ?_
  replace hc_tried := hc_tried.mono ad
  replace y := y.mono ad
  replace z := z.mono ad
  replace aa := aa.mono ad
  replace hb_r_ := hb_r_.mono ad
  replace a8 := a8.mono ad
  replace a9 := a9.mono ad
  replace ba := ba.mono ad
  replace hE_tried := hE_tried.mono ad
  obtain ⟨av, aw, rfl, bm⟩ := ci
  refine ⟨.one (.c (.slice av x24.length aw)), rfl, fun dk (c3 : Kn 32 (K56e2 b_least b_tried b_r_ a u) [(tS 24 av x24.length aw), (tA 23 (K56c5 f r_ m g p l q ae x22 ah af ai ag aj)), (tA 18 (K56c4 d)), (17, .one (.c (.map (some bm_tried)))), (tP 5 3 0), (tP 2 1 0), (tP 4 0 0)] dk) => hK _ _ bj.plOk ?_⟩
  obtain ⟨x25, ex25, H⟩ := bnd H
  refine D_loud 8 rfl (by kernel_rfl) (by decide) (rfl) fun K hK => ?_
  refine wp_call [.c (.slice av x24.length aw)] _ c3 bj rfl rfl (by decide) (by rfl) rfl (fun _ _ => by kernel_rfl) (control_latest_ok n bj.has x24 bm ex25) fun ea a5 eg cj ac b3 => ?_
  replace hc_tried := hc_tried.mono ac
  replace y := y.mono ac
  replace z := z.mono ac
  replace aa := aa.mono ac
  replace hb_r_ := hb_r_.mono ac
  replace a8 := a8.mono ac
  replace a9 := a9.mono ac
  replace ba := ba.mono ac
  replace bm := bm.mono ac
  replace hE_tried := hE_tried.mono ac
  obtain rfl := cj
  refine ⟨.one (.c (.int .i64 x25)), rfl, fun bo (c4 : Kn 32 (K56e2 b_least b_tried b_r_ a u) [(tI 25 x25), (tS 24 av x24.length aw), (tA 23 (K56c5 f r_ m g p l q ae x22 ah af ai ag aj)), (tA 18 (K56c4 d)), (17, .one (.c (.map (some bm_tried)))), (tP 5 3 0), (tP 2 1 0), (tP 4 0 0)] bo) => hK _ _ b3.plOk ?_⟩
  refine D_loud 9 rfl (by kernel_rfl) (by decide) (rfl) fun K hK => ?_
  refine wp_updateP (KT := 102) (E := 3) (k := (d : Deeds)) (x := (x25 : Int)) (.agg (K56c4 d)) (.c (.int .i64 x25)) c4 b3 rfl rfl (by rfl) (by rfl) (by rfl) (by kernel_rfl) Deeds.KL hE_tried rfl rfl fun a4 ay ds au (c5 : Kn 32 (K56e2 b_least b_tried b_r_ a u) [(tI 25 x25), (tS 24 av x24.length aw), (tA 23 (K56c5 f r_ m g p l q ae x22 ah af ai ag aj)), (tA 18 (K56c4 d)), (17, .one (.c (.map (some bm_tried)))), (tP 5 3 0), (tP 2 1 0), (tP 4 0 0)] bo) (ar : Mem (Fr.put F bm_tried (some (.map a4 ay))) a5 (K56e2 b_least b_tried b_r_ a u) (K56p6 least bm_tried f r_ m g p l q d p1) [] ds) => hK _ _ ar.plOk ?_
  have c6 : Kn 32 (K56e2 b_least b_tried b_r_ a u) [(tP 5 3 0), (tP 2 1 0), (tP 4 0 0)] bo := c5.keep [5, 2, 4] (by rfl)
  refine wpD_end (by kernel_rfl) (wp_region_G (by kernel_rfl) ?_)
  replace ar := ar.drew
  refine wpG_of_D [] (K56e2 b_least b_tried b_r_ a u) (K56p6 least bm_tried f r_ m g p l q d p1) ?_
  refine D_run [0, 1, 2] [2, 1, 0] [28, 27, 26, 4] [(tA 28 (K56c4 d)), (27, .one (.c (.map (some bm_tried)))), (tI 26 least), (tP 4 0 0)] (fun _ _ _ _ _ h => h) c6 ar.plOk (by kernel_rfl) (by rfl) (by kernel_rfl) fun d4 c7 => ?_
  obtain ⟨x29, ex29, H⟩ := bnd H
  refine D_loud 3 rfl (by kernel_rfl) (by decide) (rfl) fun K hK => ?_
  refine wp_lookup (KT := 102) (E := 3) (k := (d : Deeds)) (0 : Int) (.agg (K56c4 d)) c7 rfl rfl (by decide) (by rfl) (by rfl) (by kernel_rfl) Deeds.KL (ar.ext (Fr.put_X _ _ _)) au rfl (by kernel_rfl) rfl fun eb b6 => ?_
  rw [Option.some.inj ex29] at b6 ⊢
  obtain rfl := b6
  refine ⟨.one (.c (.int .i64 x29.1)), rfl, fun dl (c8 : Kn 32 (K56e2 b_least b_tried b_r_ a u) [(tI 29 x29.1), (tA 28 (K56c4 d)), (27, .one (.c (.map (some bm_tried)))), (tI 26 least), (tP 4 0 0)] dl) => hK _ _ ar.plOk ?_⟩
  refine D_loud 4 rfl (by kernel_rfl) (by decide) (rfl) fun K hK => ?_
  refine wp_buildSlice 3 1 [.int .i64 least, .int .i64 x29.1] c8 ar rfl rfl (by decide) (by kernel_rfl) (by rfl) (by rfl) rfl (by decide) fun ap dm cb (c9 : Kn 32 (K56e2 b_least b_tried b_r_ a u) [(tS 30 ap 2 2), (tI 29 x29.1), (tA 28 (K56c4 d)), (27, .one (.c (.map (some bm_tried)))), (tI 26 least), (tP 4 0 0)] dm) (bk : Mem (Fr.put F bm_tried (some (.map a4 ay))) a5 (K56e2 b_least b_tried b_r_ a u) (K56p6 least bm_tried f r_ m g p l q d p1) [⟨ap, 2, 2, 3, 1, ([.int .i64 least, .int .i64 x29.1] : List Value), 0⟩] cb) => ?_
  have a7 : Cells a5 ([least, x29.1] : List Int) ([.int .i64 least, .int .i64 x29.1] : List Value) := ⟨_, _, rfl, (rep_int : rep a5 (least : Int) _), ⟨_, _, rfl, (rep_int : rep a5 (x29.1 : Int) _), rfl⟩⟩
  refine hK _ _ bk.plOk ?_
  obtain ⟨bz, an, de, bd⟩ := bk.settle (i := 0) rfl
  replace hc_tried := hc_tried.mono an
  replace y := y.mono an
  replace z := z.mono an
  replace aa := aa.mono an
  replace hb_r_ := hb_r_.mono an
  replace a7 := a7.mono an
  replace au := au.mono an
  replace bd : Mem (Fr.put F bm_tried (some (.map a4 ay))) bz (K56e2 b_least b_tried b_r_ a u) (K56p6 least bm_tried f r_ m g p l q d p1) [⟨ap, 2, 2, 3, 1, ([.int .i64 least, .int .i64 x29.1] : List Value), (([.int .i64 least, .int .i64 x29.1] : List Value) : List Value).length⟩] cb := bd
  have bn : RepS bz ap 2 ([least, x29.1] : List Int) := ⟨_, a7, de, bk.rowCap (i := 0) rfl⟩
  obtain ⟨x31, ex31, H⟩ := bnd H
  refine D_loud 5 rfl (by kernel_rfl) (by decide) (rfl) fun K hK => ?_
  refine wp_call [.c (.slice ap 2 2)] _ c9 bd rfl rfl (by decide) (by rfl) rfl (fun _ _ => by kernel_rfl) (control_earliest_ok n bd.has ([least, x29.1] : List Int) bn ex31) fun ec b0 eh ck ak b1 => ?_
  replace hc_tried := hc_tried.mono ak
  replace y := y.mono ak
  replace z := z.mono ak
  replace aa := aa.mono ak
  replace hb_r_ := hb_r_.mono ak
  replace bn := bn.mono ak
  replace a7 := a7.mono ak
  replace au := au.mono ak
  obtain rfl := ck
  refine ⟨.one (.c (.int .i64 x31)), rfl, fun b7 (cm : Kn 32 (K56e2 b_least b_tried b_r_ a u) [(tI 31 x31), (tS 30 ap 2 2), (tI 29 x29.1), (tA 28 (K56c4 d)), (27, .one (.c (.map (some bm_tried)))), (tI 26 least), (tP 4 0 0)] b7) => hK _ _ b1.plOk ?_⟩
  refine D_sync 6 rfl (by kernel_rfl) (by decide) (rfl) (by kernel_rfl) fun K hK => ?_
  refine wp_store 0 0 (.c (.int .i64 x31)) [.int .i64 x31] cm b1 rfl rfl (by rfl) (by rfl) (by rfl) (by kernel_rfl) (by kernel_rfl) (by rfl) fun dn cn (da : Mem (Fr.put F bm_tried (some (.map a4 ay))) b0 (K56e2 b_least b_tried b_r_ a u) [⟨[.int .i64 x31], some 3⟩, ⟨[.map (some bm_tried)], none⟩, ⟨(K56c3 f r_ m g p l q), none⟩, ⟨(K56c4 d), some 102⟩, ⟨(K56c1 p1), some 104⟩] [⟨ap, 2, 2, 3, 1, ([.int .i64 least, .int .i64 x29.1] : List Value), (([.int .i64 least, .int .i64 x29.1] : List Value) : List Value).length⟩] dn) => hK _ _ ?_
  have dw : Kn 32 (K56e2 b_least b_tried b_r_ a u) [] b7 := cn.keep [] (by rfl)
  refine wpG_end (by kernel_rfl) ?_
  obtain rfl := Option.some.inj H
  exact endM_of rfl ⟨b0, a4, ay, (Heap.le_trans aq (Heap.le_trans ad (Heap.le_trans ac (Heap.le_trans an ak)))), rfl, au, ((da.cutRw 0).cutPl 1 (by kernel_rfl))⟩
 ·
  rw [bg, cond_false] at H
  refine wp_skip (wp_region_G (by kernel_rfl) ?_)
  replace ab := ab.drew
  refine wpG_of_D [] (K56e2 b_least b_tried b_r_ a u) (K56p6 least bm_tried f r_ m g p l q d p1) ?_
  refine D_run [0, 1, 2] [2, 1, 0] [28, 27, 26, 4] [(tA 28 (K56c4 d)), (27, .one (.c (.map (some bm_tried)))), (tI 26 least), (tP 4 0 0)] (fun _ _ _ _ _ h => h) bh ab.plOk (by kernel_rfl) (by rfl) (by kernel_rfl) fun dy co => ?_
  obtain ⟨x29, ex29, H⟩ := bnd H
  refine D_loud 3 rfl (by kernel_rfl) (by decide) (rfl) fun K hK => ?_
  refine wp_lookup (KT := 102) (E := 3) (k := (d : Deeds)) (0 : Int) (.agg (K56c4 d)) co rfl rfl (by decide) (by rfl) (by rfl) (by kernel_rfl) Deeds.KL (ab.ext (Fr.put_X _ _ _)) hE_tried rfl (by kernel_rfl) rfl fun d5 b4 => ?_
  rw [Option.some.inj ex29] at b4 ⊢
  obtain rfl := b4
  refine ⟨.one (.c (.int .i64 x29.1)), rfl, fun dg (cp : Kn 32 (K56e2 b_least b_tried b_r_ a u) [(tI 29 x29.1), (tA 28 (K56c4 d)), (27, .one (.c (.map (some bm_tried)))), (tI 26 least), (tP 4 0 0)] dg) => hK _ _ ab.plOk ?_⟩
  refine D_loud 4 rfl (by kernel_rfl) (by decide) (rfl) fun K hK => ?_
  refine wp_buildSlice 3 1 [.int .i64 least, .int .i64 x29.1] cp ab rfl rfl (by decide) (by kernel_rfl) (by rfl) (by rfl) rfl (by decide) fun ao dh ca (cq : Kn 32 (K56e2 b_least b_tried b_r_ a u) [(tS 30 ao 2 2), (tI 29 x29.1), (tA 28 (K56c4 d)), (27, .one (.c (.map (some bm_tried)))), (tI 26 least), (tP 4 0 0)] dh) (bi : Mem (Fr.put F bm_tried (some (.map es_tried cl_tried))) h (K56e2 b_least b_tried b_r_ a u) (K56p6 least bm_tried f r_ m g p l q d p1) [⟨ao, 2, 2, 3, 1, ([.int .i64 least, .int .i64 x29.1] : List Value), 0⟩] ca) => ?_
  have a6 : Cells h ([least, x29.1] : List Int) ([.int .i64 least, .int .i64 x29.1] : List Value) := ⟨_, _, rfl, (rep_int : rep h (least : Int) _), ⟨_, _, rfl, (rep_int : rep h (x29.1 : Int) _), rfl⟩⟩
  refine hK _ _ bi.plOk ?_
  obtain ⟨bw, am, dd, bb⟩ := bi.settle (i := 0) rfl
  replace hc_tried := hc_tried.mono am
  replace y := y.mono am
  replace z := z.mono am
  replace aa := aa.mono am
  replace hb_r_ := hb_r_.mono am
  replace a6 := a6.mono am
  replace hE_tried := hE_tried.mono am
  replace bb : Mem (Fr.put F bm_tried (some (.map es_tried cl_tried))) bw (K56e2 b_least b_tried b_r_ a u) (K56p6 least bm_tried f r_ m g p l q d p1) [⟨ao, 2, 2, 3, 1, ([.int .i64 least, .int .i64 x29.1] : List Value), (([.int .i64 least, .int .i64 x29.1] : List Value) : List Value).length⟩] ca := bb
  have bl : RepS bw ao 2 ([least, x29.1] : List Int) := ⟨_, a6, dd, bi.rowCap (i := 0) rfl⟩
  obtain ⟨x31, ex31, H⟩ := bnd H
  refine D_loud 5 rfl (by kernel_rfl) (by decide) (rfl) fun K hK => ?_
  refine wp_call [.c (.slice ao 2 2)] _ cq bb rfl rfl (by decide) (by rfl) rfl (fun _ _ => by kernel_rfl) (control_earliest_ok n bb.has ([least, x29.1] : List Int) bl ex31) fun d6 bx ed cg al b2 => ?_
  replace hc_tried := hc_tried.mono al
  replace y := y.mono al
  replace z := z.mono al
  replace aa := aa.mono al
  replace hb_r_ := hb_r_.mono al
  replace bl := bl.mono al
  replace a6 := a6.mono al
  replace hE_tried := hE_tried.mono al
  obtain rfl := cg
  refine ⟨.one (.c (.int .i64 x31)), rfl, fun b8 (ct : Kn 32 (K56e2 b_least b_tried b_r_ a u) [(tI 31 x31), (tS 30 ao 2 2), (tI 29 x29.1), (tA 28 (K56c4 d)), (27, .one (.c (.map (some bm_tried)))), (tI 26 least), (tP 4 0 0)] b8) => hK _ _ b2.plOk ?_⟩
  refine D_sync 6 rfl (by kernel_rfl) (by decide) (rfl) (by kernel_rfl) fun K hK => ?_
  refine wp_store 0 0 (.c (.int .i64 x31)) [.int .i64 x31] ct b2 rfl rfl (by rfl) (by rfl) (by rfl) (by kernel_rfl) (by kernel_rfl) (by rfl) fun dq cu (db : Mem (Fr.put F bm_tried (some (.map es_tried cl_tried))) bx (K56e2 b_least b_tried b_r_ a u) [⟨[.int .i64 x31], some 3⟩, ⟨[.map (some bm_tried)], none⟩, ⟨(K56c3 f r_ m g p l q), none⟩, ⟨(K56c4 d), some 102⟩, ⟨(K56c1 p1), some 104⟩] [⟨ao, 2, 2, 3, 1, ([.int .i64 least, .int .i64 x29.1] : List Value), (([.int .i64 least, .int .i64 x29.1] : List Value) : List Value).length⟩] dq) => hK _ _ ?_
  have dx : Kn 32 (K56e2 b_least b_tried b_r_ a u) [] b8 := cu.keep [] (by rfl)
  refine wpG_end (by kernel_rfl) ?_
  obtain rfl := Option.some.inj H
  exact endM_of rfl ⟨bx, es_tried, cl_tried, (Heap.le_trans am al), rfl, hE_tried, ((db.cutRw 0).cutPl 1 (by kernel_rfl))⟩
theorem control_Least_1_SOk {h0 : Heap} {b_least bm_tried : Nat} : SOk (control_Least_1_XS h0 b_least bm_tried) (control_Least_1_B b_least bm_tried) := by
 refine ⟨fun s F F' h h' hs hle hX hh => ?_, fun s F h hs b hb => ?_⟩
 ·
  obtain ⟨h9, ⟨d0_1, _⟩, bt, bq, ⟨f0, n0⟩, m0, bv, _⟩ := hs
  exact ⟨Heap.le_trans h9 hle, ⟨d0_1, trivial⟩, bt, bq, ⟨(hX _ (.inl rfl)).trans f0, fun o => none_of (hh _ (.inl rfl) o) (n0 o)⟩, (hX _ (.inr (rfl))).trans m0, bv.mono hle, trivial⟩
 ·
  obtain ⟨h9, ⟨d0_1, _⟩, bt, bq, ⟨f0, n0⟩, m0, bv, _⟩ := hs
  rcases hb with rfl | rfl
  ·
   rw [f0]; rfl
  ·
   rw [m0]; rfl
theorem control_Least_1_start {fw : World} {h : Heap} {Y : Nat → Option Obj} {w : World} {b_least bm_tried : Nat} (s : (List (Deeds × Int)) × Int) {bf : Array MapEntry} {be : Nat} (cc : Ents h bf.toList be s.1) (hX0 : Y bm_tried = some (.map bf be)) (hl : Mem ⟨fw, h, Y⟩ h [(b_least, 0)] [⟨[.int .i64 s.2], some 3⟩] [] w) :
  ∃ F1 : Fr, Mem F1 h [] [] [] w ∧ control_Least_1_XS h b_least bm_tried s F1 h ∧ ∀ (G : Fr) (h' : Heap) (w' : World) (s' : (List (Deeds × Int)) × Int), Heap.le h h' → Fr.Sim (control_Least_1_B b_least bm_tried) F1 G → control_Least_1_XS h b_least bm_tried s' G h' → Mem G h' [] [] [] w' →
   ∃ (az : Array MapEntry) (ax : Nat), Mem (Fr.put ⟨fw, h, Y⟩ bm_tried (some (.map az ax))) h' [(b_least, 0)] [⟨[.int .i64 s'.2], some 3⟩] [] w' ∧ Ents h' az.toList ax s'.1 ∧ True := by
 have px0 : Y b_least = none := hl.placeX (i := 0) rfl rfl
 have d0_1 : b_least ≠ bm_tried := fun e => by rw [e, hX0] at px0; cases px0
 obtain ⟨q0, n0⟩ := Mem.hide (e := []) (pl := []) (b := b_least) (T := 3) (cs := [.int .i64 s.2]) ([.int .i64 s.2] : List Value) hl rfl (by kernel_rfl) rfl
 refine ⟨_, q0, ⟨Heap.le_refl _, ⟨d0_1, trivial⟩, bf, be, ⟨(Fr.put_X _ _ _), n0⟩, ((Fr.put_ne _ _ d0_1.symm).trans hX0), cc, trivial⟩, fun G h' w' s' hle hsim hs' hm' => ?_⟩
 obtain ⟨h9, _, az, ax, ⟨f0, g0⟩, m0, cd, _⟩ := hs'
 have u0 := Mem.unhide (e := []) (pl := []) (b := b_least) (T := 3) (cs := [.int .i64 s'.2]) ([.int .i64 s'.2] : List Value) hm' f0 g0 rfl (by kernel_rfl) (by kernel_rfl) rfl
 have hF : Fr.put G b_least none = Fr.put ⟨fw, h, Y⟩ bm_tried (some (.map az ax)) := by
  refine Fr.eqOf hsim.w hsim.h fun b => ?_
  by_cases e0 : b = b_least
  ·
   subst e0; rw [Fr.put_X, Fr.put_ne _ _ d0_1]; exact px0.symm
  rw [Fr.put_ne _ _ e0]
  by_cases e1 : b = bm_tried
  ·
   subst e1; rw [Fr.put_X]; exact m0
  rw [Fr.put_ne _ _ e1]
  refine (hsim.X b (fun hb => by rcases hb with hb | hb <;> contradiction)).trans ?_
  rw [Fr.put_ne _ _ e0]
 rw [hF] at u0
 exact ⟨az, ax, u0, cd, trivial⟩
theorem control_Least_1_see (n : Nat) {h0 : Heap} {b_least bm_tried : Nat} {b_r_ : Nat} (r_ : Route) (hb_r_ : BoxS h0 b_r_ r_) {b_tried : Nat} (hc_tried : CellsAt h0 b_tried [.map (some bm_tried)]) : See1 (control_Least_1_XS h0 b_least bm_tried) (control_Least_1_B b_least bm_tried) (.func (.func 56) #[] #[.pointer (some ⟨b_tried, 0, none⟩), .pointer (some ⟨b_r_, 0, none⟩), .pointer (some ⟨b_least, 0, none⟩)]) (fun s x0 x1 => control_Least_1 n x0 x1 s.2 s.1 r_) := by
 intro s F h w x0 cs0 hx0 x1 cs1 hx1 s' hs hm H
 obtain ⟨h9, ⟨d0_1, _⟩, du, dt, ⟨f0, n0⟩, m0, ce, _⟩ := hs
 have u0 := Mem.unhide (e := []) (pl := []) (b := b_least) (T := 3) (cs := [.int .i64 s.2]) ([.int .i64 s.2] : List Value) hm f0 n0 rfl (by kernel_rfl) (by kernel_rfl) rfl
 refine ⟨56, _, _, rfl, fun _ _ => by kernel_rfl, Calls.mono (control_Least_1_ok n x0 hx0 x1 hx1 s.2 s.1 (hc_tried.mono h9) ((Fr.put_ne _ _ d0_1.symm).trans m0) ce r_ (hb_r_.mono h9) u0 H) ?_⟩
 rintro en w' ⟨v, rfl, h2, bu, br, hle, rfl, cf, m2⟩
 obtain ⟨q0, _⟩ := Mem.hide (e := []) (pl := []) (b := b_least) (T := 3) (cs := [.int .i64 s'.2]) ([.int .i64 s'.2] : List Value) m2 rfl (by kernel_rfl) rfl
 refine ⟨_, rfl, rfl, h2, Fr.put (Fr.put (Fr.put F b_least none) bm_tried (some (.map bu br))) b_least (some (.cells ([.int .i64 s'.2] : List Value).toArray 3 (0, 0))), hle, ⟨rfl, rfl, fun b hb => ?_⟩, ⟨Heap.le_trans h9 hle, ⟨d0_1, trivial⟩, bu, br, ⟨(Fr.put_X _ _ _), n0⟩, ((Fr.put_ne _ _ d0_1.symm).trans (Fr.put_X _ _ _)), cf, trivial⟩, q0⟩
 have e0 : b ≠ b_least := fun e => hb (.inl e)
 have e1 : b ≠ bm_tried := fun e => hb (.inr (e))
 rw [Fr.put_ne _ _ e0, Fr.put_ne _ _ e1, Fr.put_ne _ _ e0]

abbrev K16c1 (r_ : Route) : List SC := [.int .i64 (IntKind.i64.wrap (r_.to_ - r_.fr))]
abbrev K16c2 (b : Option Addr) (r_ : Route) (g : Nat) (d : Option Addr) (j : Nat) (f : Option Addr) (k : Nat) : List SC := [.slice b r_.legs.length g, .int .i64 r_.turn.lo, .int .i64 r_.turn.hi, .slice d r_.buses.length j, .slice f r_.spares.length k, .int .i64 r_.unit, .int .i64 r_.gap, .int .i64 r_.fr, .int .i64 r_.to_]
set_option maxRecDepth 100000 in
set_option maxHeartbeats 4000000 in
theorem control_Least_ok (n : Nat) {h : Heap} {w : World} (hh : Has h w) (r_ : Route) {cs_r_ : List Value} (hx_r_ : rep h r_ cs_r_) {r : Int × Int} (H : control_Least n r_ = some r) :
  Calls Try.prog 16 #[.agg cs_r_.toArray] w (Ret (fun h v => ∃ v0 v1, v = .tuple #[v0, v1] ∧ (v0 = .int .i64 r.1) ∧ (v1 = .int .i64 r.2)) h w) := by
 obtain ⟨_, _, rfl, ⟨b, g, rfl, p⟩, ⟨_, _, rfl, ⟨_, _, rfl, rfl, rfl⟩, ⟨_, _, rfl, ⟨d, j, rfl, q⟩, ⟨_, _, rfl, ⟨f, k, rfl, u⟩, ⟨_, _, rfl, rfl, ⟨_, _, rfl, rfl, ⟨_, _, rfl, rfl, rfl⟩⟩⟩⟩⟩⟩⟩ := hx_r_
 refine enter 22 [.agg (K16c2 b r_ g d j f k)] Try.func16 rfl rfl rfl rfl fun t hk => ?_
 have hm := Mem.begin h w hh
 unfold control_Least at H
 refine wp_seq (wp_region_from (wpFrom_loud _ rfl (rfl) fun K hK => ?_))
 refine wp_box (.agg (K16c2 b r_ g d j f k)) hk hm rfl rfl (by decide) (by kernel_rfl) (by kernel_rfl) (by kernel_rfl) fun a b1 b5 (ba : Kn 22 [(a, 0)] [(tP 1 0 0), (tA 0 (K16c2 b r_ g d j f k))] b1) (ag : Mem ⟨w, h, noX⟩ h [(a, 0)] [⟨(K16c2 b r_ g d j f k), some 43⟩] [] b5) => hK _ _ ?_
 refine R_runk 1 2 [1] [(tP 1 0 0)] ba ag.plOk (by kernel_rfl) fun ch bb => ?_
 refine wpFrom_end (by decide) (wp_seq (wp_seq (wp_region_from (R_runk 0 1 [7, 1] [(tA 7 (K16c2 b r_ g d j f k)), (tP 1 0 0)] bb ag.plOk (by kernel_rfl) fun ci bc => ?_))))
 obtain ⟨x8, ex8, H⟩ := bnd H
 refine wpFrom_loud _ rfl (rfl) fun K hK => ?_
 refine wp_call [.agg (K16c2 b r_ g d j f k)] _ bc ag rfl rfl (by decide) (by rfl) rfl (fun _ _ => by kernel_rfl) (control_Route_check_ok n ag.has r_ ((rep_pair (rep_slice p) (rep_pair (rep_pair rep_int rep_int) (rep_pair (rep_slice q) (rep_pair (rep_slice u) (rep_pair rep_int (rep_pair rep_int (rep_pair rep_int rep_int))))))) : rep h r_ _) ex8) fun co z b6 a0 ak ad => ?_
 replace p := p.mono ak
 replace q := q.mono ak
 replace u := u.mono ak
 obtain rfl := a0
 refine ⟨.one (.c (.int .i64 x8)), rfl, fun b2 (bd : Kn 22 [(a, 0)] [(tI 8 x8), (tA 7 (K16c2 b r_ g d j f k)), (tP 1 0 0)] b2) => hK _ _ ?_⟩
 refine R_runk 2 1 [4, 1] [(tI 4 x8), (tP 1 0 0)] bd ad.plOk (by kernel_rfl) fun cj be => ?_
 refine wpFrom_end (by decide) (wp_seq (wp_region_from (R_runk 0 2 [10, 4, 1] [(tB 10 (x8 != 0)), (tI 4 x8), (tP 1 0 0)] be ad.plOk (by kernel_rfl) fun ck aj => ?_)))
 refine wpFrom_end (by decide) (wp_cond_sv ((x8 != 0)) aj (by kernel_rfl) (fun ah => ?_) (fun ah => ?_))
 ·
  rw [ah, cond_true] at H
  refine wp_seq (wp_region_from (R_runk 0 3 [3, 2] [(tI 3 x8), (tI 2 0)] aj ad.plOk (by kernel_rfl) fun cl bf => ?_))
  refine wpFrom_end (by decide) (wp_ret ?_)
  obtain rfl := Option.some.inj H
  exact ret_ok (.tup [.c (.int .i64 0), .c (.int .i64 x8)]) bf ad (by kernel_rfl) ⟨_, _, rfl, rfl, rfl⟩
 ·
  rw [ah, cond_false] at H
  refine wp_skip (wp_seq (wp_region_from (wpFrom_loud _ rfl (rfl) fun K hK => ?_)))
  refine wp_makeMap aj ad rfl rfl (by decide) fun m b3 cf (bg : Kn 22 [(a, 0)] [(12, .one (.c (.map (some m)))), (tB 10 (x8 != 0)), (tI 4 x8), (tP 1 0 0)] b3) (bt : Mem (Fr.put ⟨w, h, noX⟩ m (some (.map #[] 0))) z [(a, 0)] [⟨(K16c2 b r_ g d j f k), some 43⟩] [] (World.alloc b6 (.map #[] 0))) => ?_
  have y : Ents z (#[] : Array MapEntry).toList 0 ([] : List (Deeds × Int)) := Ents.nil
  refine hK _ _ ?_
  refine wpFrom_loud _ rfl (rfl) fun K hK => ?_
  refine wp_alloc [.map none] bg bt rfl rfl (by decide) (by kernel_rfl) (by kernel_rfl) (by kernel_rfl) fun l av b7 (bh : Kn 22 [(a, 0), (l, 0)] [(tP 5 1 0), (12, .one (.c (.map (some m)))), (tB 10 (x8 != 0)), (tI 4 x8), (tP 1 0 0)] av) (bu : Mem (Fr.put ⟨w, h, noX⟩ m (some (.map #[] 0))) z [(a, 0), (l, 0)] [⟨(K16c2 b r_ g d j f k), some 43⟩, ⟨[.map none], some 111⟩] [] b7) => hK _ _ ?_
  refine wpFrom_loud _ rfl (rfl) fun K hK => ?_
  refine wp_store 1 0 (.c (.map (some m))) [.map (some m)] bh bu rfl rfl (by rfl) (by rfl) (by rfl) (by kernel_rfl) (by kernel_rfl) (by rfl) fun b8 bi (ar : Mem (Fr.put ⟨w, h, noX⟩ m (some (.map #[] 0))) z [(a, 0), (l, 0)] [⟨(K16c2 b r_ g d j f k), some 43⟩, ⟨[.map (some m)], some 111⟩] [] b8) => hK _ _ ?_
  have bj : Kn 22 [(a, 0), (l, 0)] [(tP 5 1 0), (tP 1 0 0)] av := bi.keep [5, 1] (by rfl)
  refine wpFrom_end (by decide) (wp_seq (wp_region_from (R_runk 0 5 [17, 5, 1] [(tI 17 (IntKind.i64.wrap (r_.to_ - r_.fr))), (tP 5 1 0), (tP 1 0 0)] bj ar.plOk (by kernel_rfl) fun cm bk => ?_)))
  refine wpFrom_loud _ rfl (rfl) fun K hK => ?_
  refine wp_alloc [.int .i64 0] bk ar rfl rfl (by decide) (by kernel_rfl) (by kernel_rfl) (by kernel_rfl) fun o aw b9 (bl : Kn 22 [(a, 0), (l, 0), (o, 0)] [(tP 6 2 0), (tI 17 (IntKind.i64.wrap (r_.to_ - r_.fr))), (tP 5 1 0), (tP 1 0 0)] aw) (bv : Mem (Fr.put ⟨w, h, noX⟩ m (some (.map #[] 0))) z [(a, 0), (l, 0), (o, 0)] [⟨(K16c2 b r_ g d j f k), some 43⟩, ⟨[.map (some m)], some 111⟩, ⟨[.int .i64 0], some 3⟩] [] b9) => hK _ _ ?_
  refine wpFrom_loud _ rfl (rfl) fun K hK => ?_
  refine wp_store 2 0 (.c (.int .i64 (IntKind.i64.wrap (r_.to_ - r_.fr)))) (K16c1 r_) bl bv rfl rfl (by rfl) (by rfl) (by rfl) (by kernel_rfl) (by kernel_rfl) (by rfl) fun an bm (au : Mem (Fr.put ⟨w, h, noX⟩ m (some (.map #[] 0))) z [(a, 0), (l, 0), (o, 0)] [⟨(K16c2 b r_ g d j f k), some 43⟩, ⟨[.map (some m)], some 111⟩, ⟨(K16c1 r_), some 3⟩] [] an) => hK _ _ ?_
  have bn : Kn 22 [(a, 0), (l, 0), (o, 0)] [(tP 6 2 0), (tP 5 1 0), (tP 1 0 0)] aw := bm.keep [6, 5, 1] (by rfl)
  refine wpFrom_end (by decide) (wp_seq (wp_region_from (R_runk 0 1 [18, 6, 5, 1] [(tA 18 (K16c2 b r_ g d j f k)), (tP 6 2 0), (tP 5 1 0), (tP 1 0 0)] bn au.plOk (by kernel_rfl) fun cn bo => ?_)))
  obtain ⟨ao, af, a7, al⟩ := au.settlePlc (i := 1) rfl
  replace p := p.mono af
  replace q := q.mono af
  replace u := u.mono af
  replace y := y.mono af
  replace al : Mem (Fr.put ⟨w, h, noX⟩ m (some (.map #[] 0))) ao [(a, 0), (l, 0), (o, 0)] [⟨(K16c2 b r_ g d j f k), some 43⟩, ⟨[.map (some m)], none⟩, ⟨(K16c1 r_), some 3⟩] [] an := al
  have ab : CellsAt ao l [.map (some m)] := CellsAt.of (e := [(a, 0), (l, 0), (o, 0)]) (cs := [.map (some m)]) rfl a7
  obtain ⟨aa, ac, aq, am⟩ := al.settlePlc (i := 0) rfl
  replace p := p.mono ac
  replace q := q.mono ac
  replace u := u.mono ac
  replace ab := ab.mono ac
  replace y := y.mono ac
  replace am : Mem (Fr.put ⟨w, h, noX⟩ m (some (.map #[] 0))) aa [(a, 0), (l, 0), (o, 0)] [⟨(K16c2 b r_ g d j f k), none⟩, ⟨[.map (some m)], none⟩, ⟨(K16c1 r_), some 3⟩] [] an := am
  have ai : BoxS aa a (r_ : Route) := BoxS.of (e := [(a, 0), (l, 0), (o, 0)]) (cs := (K16c2 b r_ g d j f k)) ((rep_pair (rep_slice p) (rep_pair (rep_pair rep_int rep_int) (rep_pair (rep_slice q) (rep_pair (rep_slice u) (rep_pair rep_int (rep_pair rep_int (rep_pair rep_int rep_int))))))) : rep aa (r_ : Route) _) rfl aq
  have ap : CellsAt aa a [.slice b r_.legs.length g, .int .i64 r_.turn.lo, .int .i64 r_.turn.hi, .slice d r_.buses.length j, .slice f r_.spares.length k, .int .i64 r_.unit, .int .i64 r_.gap, .int .i64 r_.fr, .int .i64 r_.to_] := CellsAt.of (e := [(a, 0), (l, 0), (o, 0)]) (cs := [.slice b r_.legs.length g, .int .i64 r_.turn.lo, .int .i64 r_.turn.hi, .slice d r_.buses.length j, .slice f r_.spares.length k, .int .i64 r_.unit, .int .i64 r_.gap, .int .i64 r_.fr, .int .i64 r_.to_]) rfl aq
  refine R_func 1 #[] #[.pointer (some ⟨l, 0, none⟩), .pointer (some ⟨a, 0, none⟩), .pointer (some ⟨o, 0, none⟩)] bo rfl rfl (rfl) rfl (by decide) (by rfl) (by rfl) (by rfl) (by rfl) fun b4 (bp : Kn 22 [(a, 0), (l, 0), (o, 0)] [(19, .one (.c (.func (.func 56) #[] #[.pointer (some ⟨l, 0, none⟩), .pointer (some ⟨a, 0, none⟩), .pointer (some ⟨o, 0, none⟩)]))), (tA 18 (K16c2 b r_ g d j f k)), (tP 6 2 0), (tP 5 1 0), (tP 1 0 0)] b4) => ?_
  obtain ⟨x20, ex20, H⟩ := bnd H
  obtain ⟨cd, a4, br, bz⟩ := am.lend1 m (Fr.put_X _ _ _) [2] [] (by kernel_rfl) (by kernel_rfl) (by kernel_rfl) (by kernel_rfl)
  obtain ⟨cb, bs, a1, a6⟩ := control_Least_1_start (([] : List (Deeds × Int)), IntKind.i64.wrap (r_.to_ - r_.fr)) y (a4 _ _ (Fr.put_X _ _ _)) br
  refine wpFrom_loud _ rfl (rfl) fun K hK => ?_
  refine wp_callM [.agg (K16c2 b r_ g d j f k), .c (.func (.func 56) #[] #[.pointer (some ⟨l, 0, none⟩), .pointer (some ⟨a, 0, none⟩), .pointer (some ⟨o, 0, none⟩)])] _ bp rfl rfl (by decide) (by rfl) rfl (fun _ _ => by kernel_rfl) (control_Route_every_ok n control_Least_1_SOk (fun s y0 y1 => control_Least_1 n y0 y1 s.2 s.1 r_) (control_Least_1_see n r_ ai ab) r_ ((rep_pair (rep_slice p) (rep_pair (rep_pair rep_int rep_int) (rep_pair (rep_slice q) (rep_pair (rep_slice u) (rep_pair rep_int (rep_pair rep_int (rep_pair rep_int rep_int))))))) : rep aa r_ _) (([] : List (Deeds × Int)), IntKind.i64.wrap (r_.to_ - r_.fr)) a1 bs ex20) fun cp ca a2 => ?_
  obtain ⟨rfl, a5, cc, x, b0, a3, bw⟩ := a2
  obtain ⟨az, ay, bx, ce, _⟩ := a6 _ _ _ _ x b0 a3 bw
  have ae := bz _ _ _ _ [] x rfl (Nat.le_refl _) (by kernel_rfl) bx
  rw [Fr.put_put] at ae
  replace p := p.mono x
  replace q := q.mono x
  replace u := u.mono x
  replace ab := ab.mono x
  replace ai := ai.mono x
  replace ap := ap.mono x
  replace y := y.mono x
  replace ae : Mem (Fr.put ⟨w, h, noX⟩ m (some (.map az ay))) a5 [(a, 0), (l, 0), (o, 0)] [⟨[.slice b r_.legs.length g, .int .i64 r_.turn.lo, .int .i64 r_.turn.hi, .slice d r_.buses.length j, .slice f r_.spares.length k, .int .i64 r_.unit, .int .i64 r_.gap, .int .i64 r_.fr, .int .i64 r_.to_], none⟩, ⟨[.map (some m)], none⟩, ⟨[.int .i64 x20.2], some 3⟩] [] ca := ae
  refine ⟨.tup [], rfl, fun ax (bq : Kn 22 [(a, 0), (l, 0), (o, 0)] [(20, .tup []), (19, .one (.c (.func (.func 56) #[] #[.pointer (some ⟨l, 0, none⟩), .pointer (some ⟨a, 0, none⟩), .pointer (some ⟨o, 0, none⟩)]))), (tA 18 (K16c2 b r_ g d j f k)), (tP 6 2 0), (tP 5 1 0), (tP 1 0 0)] ax) => hK _ _ ?_⟩
  have a8 : Kn 22 [(a, 0), (l, 0), (o, 0)] [(tP 6 2 0)] ax := bq.keep [6] (by rfl)
  refine wpFrom_end (by decide) (wp_seq (wp_region_from (R_runk 0 3 [3, 2] [(tI 3 0), (tI 2 x20.2)] a8 ae.plOk (by kernel_rfl) fun cg a9 => ?_)))
  refine wpFrom_end (by decide) (wp_ret ?_)
  obtain rfl := Option.some.inj H
  exact ret_ok (.tup [.c (.int .i64 x20.2), .c (.int .i64 0)]) a9 ae (by kernel_rfl) ⟨_, _, rfl, rfl, rfl⟩
end Go.Proofs.Ytokchpjijlebiaa
