/- Each call computes its plain function. -/
import Derived.Test.YtokchpjijlebiaaProg
import Derived.Test.YtokchpjijlebiaaSpP0
import Derived.Test.YtokchpjijlebiaaSpWA
import Derived.Test.YtokchpjijlebiaaSpWA1
import Derived.Test.YtokchpjijlebiaaSpWB
import Derived.Test.YtokchpjijlebiaaSpWB1
import Derived.Test.YtokchpjijlebiaaSpWZ
set_option linter.all false
namespace Go.Proofs.Ytokchpjijlebiaa
open Go Go.RowKit
open Rep (rep)
open KRep (kv)
open VRep (rv)
abbrev K13c1 (e : Option Addr) (x15 : Acts × Int) (j : Nat) (f : Option Addr) (k : Nat) (g : Option Addr) (l : Nat) : List SC := [.slice e x15.1.holds.length j, .slice f x15.1.turns.length k, .slice g x15.1.spares.length l]
abbrev K13c2 (u : Option Addr) (x8 : Route) (x : Nat) (q : Option Addr) (y : Nat) (s : Option Addr) (z : Nat) : List SC := [.slice u x8.legs.length x, .int .i64 x8.turn.lo, .int .i64 x8.turn.hi, .slice q x8.buses.length y, .slice s x8.spares.length z, .int .i64 x8.unit, .int .i64 x8.gap, .int .i64 x8.fr, .int .i64 x8.to_]
abbrev K13c3 (ah : Option Addr) (x14 : Route) (an : Nat) (ai : Option Addr) (ao : Nat) (aj : Option Addr) (ap : Nat) : List SC := [.slice ah x14.legs.length an, .int .i64 x14.turn.lo, .int .i64 x14.turn.hi, .slice ai x14.buses.length ao, .slice aj x14.spares.length ap, .int .i64 x14.unit, .int .i64 x14.gap, .int .i64 x14.fr, .int .i64 x14.to_]
abbrev K13c4 (ad : Option Addr) (x19 : Route) (ak : Nat) (ae : Option Addr) (al : Nat) (af : Option Addr) (am : Nat) : List SC := [.slice ad x19.legs.length ak, .int .i64 x19.turn.lo, .int .i64 x19.turn.hi, .slice ae x19.buses.length al, .slice af x19.spares.length am, .int .i64 x19.unit, .int .i64 x19.gap, .int .i64 x19.fr, .int .i64 x19.to_]
abbrev K13m5 (x10 : (List Int) × Int) (b : Option Addr) (d : Nat) : TM := [(tI 2 x10.2), (tS 1 b x10.1.length d)]
abbrev K13m6 (x20 : Int × Int) (x15 : Acts × Int) : TM := [(tI 6 x20.2), (tI 5 x20.1), (tI 4 x15.2), (tP 3 0 0)]
set_option maxRecDepth 100000 in
set_option maxHeartbeats 4000000 in
theorem law_awake_ok (n : Nat) {h : Heap} {w : World} (hh : Has h w)  {r : Bool} (H : law_awake n  = some r) :
  Calls Try.prog 13 #[] w (Ret (fun h v => v = .bool r) h w) := by
 refine enter 47 [] Try.func13 rfl rfl rfl rfl fun t hk => ?_
 have hm := Mem.begin h w hh
 unfold law_awake at H
 refine wp_seq (wp_region_from (Rk 0 1 [] hk hm fun es c9 => ?_))
 refine wf (wp_seq (wp_region_from ?_))
 obtain ⟨x8, ex8, H⟩ := bnd H
 refine wl fun K hK => ?_
 refine wc [] c9 hm (law_line_ok n hm.has  ex8) fun fa en fl cn er b9 => ?_
 obtain ⟨_, rfl, ⟨_, _, rfl, ⟨u, x, rfl, bn⟩, ⟨_, _, rfl, ⟨_, _, rfl, rfl, rfl⟩, ⟨_, _, rfl, ⟨q, y, rfl, bp⟩, ⟨_, _, rfl, ⟨s, z, rfl, bq⟩, ⟨_, _, rfl, rfl, ⟨_, _, rfl, rfl, ⟨_, _, rfl, rfl, rfl⟩⟩⟩⟩⟩⟩⟩⟩ := cn
 refine ⟨.one (.agg (K13c2 u x8 x q y s z)), rfl, fun eb (c1 : Kn 47 [] [(tA 8 (K13c2 u x8 x q y s z))] eb) => hK _ _ ?_⟩
 obtain ⟨x9, ex9, H⟩ := bnd H
 refine wl fun K hK => ?_
 refine wc [] c1 b9 (law_free_ok n b9.has  ex9) fun e9 bt fj ck bi b6 => ?_
 replace bn := bn.mono bi
 replace bp := bp.mono bi
 replace bq := bq.mono bi
 obtain ⟨_, rfl, ⟨_, _, rfl, ⟨a5, bb, rfl, dz⟩, ⟨_, _, rfl, ⟨a6, bc, rfl, d0⟩, ⟨a7, bd, rfl, d1⟩⟩⟩⟩ := ck
 refine ⟨.one (.agg [.slice a5 x9.holds.length bb, .slice a6 x9.turns.length bc, .slice a7 x9.spares.length bd]), rfl, fun ed (df : Kn 47 [] [(tA 9 [.slice a5 x9.holds.length bb, .slice a6 x9.turns.length bc, .slice a7 x9.spares.length bd]), (tA 8 (K13c2 u x8 x q y s z))] ed) => hK _ _ ?_⟩
 obtain ⟨x10, ex10, H⟩ := bnd H
 refine wl fun K hK => ?_
 refine wc [.agg (K13c2 u x8 x q y s z), .agg [.slice a5 x9.holds.length bb, .slice a6 x9.turns.length bc, .slice a7 x9.spares.length bd]] df b6 (control_Worst_ok n b6.has x8 ((rep_pair (rep_slice bn) (rep_pair (rep_pair rep_int rep_int) (rep_pair (rep_slice bp) (rep_pair (rep_slice bq) (rep_pair rep_int (rep_pair rep_int (rep_pair rep_int rep_int))))))) : rep bt x8 _) x9 ((rep_pair (rep_slice dz) (rep_pair (rep_slice d0) (rep_slice d1))) : rep bt x9 _) ex10) fun fb em fk cl ep bl => ?_
 obtain ⟨_, _, rfl, ⟨b, d, rfl, a1⟩, rfl⟩ := cl
 refine ⟨.tup [.c (.slice b x10.1.length d), .c (.int .i64 x10.2)], rfl, fun ee (dg : Kn 47 [] [(10, .tup [.c (.slice b x10.1.length d), .c (.int .i64 x10.2)]), (tA 9 [.slice a5 x9.holds.length bb, .slice a6 x9.turns.length bc, .slice a7 x9.spares.length bd]), (tA 8 (K13c2 u x8 x q y s z))] ee) => hK _ _ ?_⟩
 refine Rk 3 5 (K13m5 x10 b d) dg bl fun e2 dh => ?_
 refine wf (wp_seq (wp_region_from ?_))
 obtain ⟨x14, ex14, H⟩ := bnd H
 refine wl fun K hK => ?_
 refine wc [] dh bl (law_line_ok n bl.has  ex14) fun fc cq fm cm dq b7 => ?_
 obtain ⟨_, rfl, ⟨_, _, rfl, ⟨ah, an, rfl, d2⟩, ⟨_, _, rfl, ⟨_, _, rfl, rfl, rfl⟩, ⟨_, _, rfl, ⟨ai, ao, rfl, d3⟩, ⟨_, _, rfl, ⟨aj, ap, rfl, d4⟩, ⟨_, _, rfl, rfl, ⟨_, _, rfl, rfl, ⟨_, _, rfl, rfl, rfl⟩⟩⟩⟩⟩⟩⟩⟩ := cm
 refine ⟨.one (.agg (K13c3 ah x14 an ai ao aj ap)), rfl, fun ef (di : Kn 47 [] ((tA 14 (K13c3 ah x14 an ai ao aj ap)) :: (K13m5 x10 b d)) ef) => hK _ _ ?_⟩
 obtain ⟨x15, ex15, H⟩ := bnd H
 refine wl fun K hK => ?_
 refine wc [.agg (K13c3 ah x14 an ai ao aj ap)] di b7 (control_Best_ok n b7.has x14 ((rep_pair (rep_slice d2) (rep_pair (rep_pair rep_int rep_int) (rep_pair (rep_slice d3) (rep_pair (rep_slice d4) (rep_pair rep_int (rep_pair rep_int (rep_pair rep_int rep_int))))))) : rep cq x14 _) ex15) fun fd bu fn co dr b8 => ?_
 obtain ⟨_, _, rfl, ⟨_, rfl, ⟨_, _, rfl, ⟨e, j, rfl, aa⟩, ⟨_, _, rfl, ⟨f, k, rfl, ab⟩, ⟨g, l, rfl, ac⟩⟩⟩⟩, rfl⟩ := co
 refine ⟨.tup [.agg (K13c1 e x15 j f k g l), .c (.int .i64 x15.2)], rfl, fun eg (dj : Kn 47 [] ((15, .tup [.agg (K13c1 e x15 j f k g l), .c (.int .i64 x15.2)]) :: (tA 14 (K13c3 ah x14 an ai ao aj ap)) :: (K13m5 x10 b d)) eg) => hK _ _ ?_⟩
 refine Rk 2 3 ((tI 17 x15.2) :: (tA 16 (K13c1 e x15 j f k g l)) :: (K13m5 x10 b d)) dj b8 fun e3 dk => ?_
 refine wl fun K hK => ?_
 refine wa [.slice none 0 0, .slice none 0 0, .slice none 0 0] dk b8 fun a eh ei (dl : Kn 47 [(a, 0)] ((tP 3 0 0) :: (tI 17 x15.2) :: (tA 16 (K13c1 e x15 j f k g l)) :: (K13m5 x10 b d)) eh) (ds : Mem ⟨w, h, noX⟩ bu [(a, 0)] [⟨[.slice none 0 0, .slice none 0 0, .slice none 0 0], some 34⟩] [] ei) => hK _ _ ?_
 refine wl fun K hK => ?_
 refine wst 0 0 (.agg (K13c1 e x15 j f k g l)) (K13c1 e x15 j f k g l) dl ds fun ej dm (bm : Mem ⟨w, h, noX⟩ bu [(a, 0)] [⟨(K13c1 e x15 j f k g l), some 34⟩] [] ej) => hK _ _ ?_
 refine Rk 7 1 ((tI 4 x15.2) :: (tP 3 0 0) :: (K13m5 x10 b d)) dm bm fun e4 dp => ?_
 refine wf (wp_seq (wp_region_from ?_))
 obtain ⟨x19, ex19, H⟩ := bnd H
 refine wl fun K hK => ?_
 refine wc [] dp bm (law_line_ok n bm.has  ex19) fun fe cr fo cp be b5 => ?_
 obtain ⟨_, rfl, ⟨_, _, rfl, ⟨ad, ak, rfl, dt⟩, ⟨_, _, rfl, ⟨_, _, rfl, rfl, rfl⟩, ⟨_, _, rfl, ⟨ae, al, rfl, du⟩, ⟨_, _, rfl, ⟨af, am, rfl, dv⟩, ⟨_, _, rfl, rfl, ⟨_, _, rfl, rfl, ⟨_, _, rfl, rfl, rfl⟩⟩⟩⟩⟩⟩⟩⟩ := cp
 refine ⟨.one (.agg (K13c4 ad x19 ak ae al af am)), rfl, fun d6 (cs : Kn 47 [(a, 0)] ((tA 19 (K13c4 ad x19 ak ae al af am)) :: (tI 4 x15.2) :: (tP 3 0 0) :: (K13m5 x10 b d)) d6) => hK _ _ ?_⟩
 obtain ⟨x20, ex20, H⟩ := bnd H
 refine wl fun K hK => ?_
 refine wc [.agg (K13c4 ad x19 ak ae al af am)] cs b5 (control_Least_ok n b5.has x19 ((rep_pair (rep_slice dt) (rep_pair (rep_pair rep_int rep_int) (rep_pair (rep_slice du) (rep_pair (rep_slice dv) (rep_pair rep_int (rep_pair rep_int (rep_pair rep_int rep_int))))))) : rep cr x19 _) ex20) fun e5 aq ff cg bf p => ?_
 replace a1 := a1.mono (Heap.le_trans (Heap.le_trans (Heap.le_trans dq dr) be) bf)
 replace aa := aa.mono (Heap.le_trans be bf)
 replace ab := ab.mono (Heap.le_trans be bf)
 replace ac := ac.mono (Heap.le_trans be bf)
 obtain ⟨_, _, rfl, rfl, rfl⟩ := cg
 refine ⟨.tup [.c (.int .i64 x20.1), .c (.int .i64 x20.2)], rfl, fun d7 (ct : Kn 47 [(a, 0)] ((20, .tup [.c (.int .i64 x20.1), .c (.int .i64 x20.2)]) :: (tA 19 (K13c4 ad x19 ak ae al af am)) :: (tI 4 x15.2) :: (tP 3 0 0) :: (K13m5 x10 b d)) d7) => hK _ _ ?_⟩
 refine Rk 2 5 ((tI 6 x20.2) :: (tI 5 x20.1) :: (tI 4 x15.2) :: (tP 3 0 0) :: (K13m5 x10 b d)) ct p fun et cu => ?_
 refine wf (wp_seq (wp_region_G (by kernel_rfl) ?_))
 replace p := p.drew
 refine wpG_of_D [] [(a, 0)] [⟨(K13c1 e x15 j f k g l), some 34⟩] ?_
 refine Dr [0, 1, 2] [2, 1, 0] [(tB 25 (x10.2 == 0)), (tI 6 x20.2), (tI 5 x20.1), (tI 4 x15.2), (tP 3 0 0), (tS 1 b x10.1.length d)] cu p fun ca bv => ?_
 rcases Bool.eq_false_or_eq_true ((x10.2 == 0)) with ar | ar
 ·
  rw [ar, cond_true] at H
  have cv : Kn 47 [(a, 0)] [(tB 25 true), (tI 6 x20.2), (tI 5 x20.1), (tI 4 x15.2), (tP 3 0 0), (tS 1 b x10.1.length d)] ca := (bv.setB 25 true (by rfl) ar).kp
  refine Dr [3] (dn 3) ((tS 26 b x10.1.length d) :: (tB 25 true) :: (K13m6 x20 x15)) cv p fun eu bw => ?_
  refine D_loud 4 rfl (by kernel_rfl) (by decide) (wantedS_sound bw (by kernel_rfl)) fun K hK => ?_
  refine wS 3 1 [.int .i64 40, .int .i64 30, .int .i64 30, .int .i64 37] bw p fun ag d8 cf (bx : Kn 47 [(a, 0)] ((tS 27 ag 4 4) :: (tS 26 b x10.1.length d) :: (tB 25 true) :: (K13m6 x20 x15)) d8) (bj : Mem ⟨w, h, noX⟩ aq [(a, 0)] [⟨(K13c1 e x15 j f k g l), some 34⟩] [⟨ag, 4, 4, 3, 1, ([.int .i64 40, .int .i64 30, .int .i64 30, .int .i64 37] : List Value), 0⟩] cf) => ?_
  have ay : Cells aq ([40, 30, 30, 37] : List Int) ([.int .i64 40, .int .i64 30, .int .i64 30, .int .i64 37] : List Value) := ⟨_, _, rfl, (rep_int : rep aq (40 : Int) _), ⟨_, _, rfl, (rep_int : rep aq (30 : Int) _), ⟨_, _, rfl, (rep_int : rep aq (30 : Int) _), ⟨_, _, rfl, (rep_int : rep aq (37 : Int) _), rfl⟩⟩⟩⟩
  refine hK _ _ bj.plOk ?_
  obtain ⟨br, az, d5, bg⟩ := bj.settle (i := 0) rfl
  replace a1 := a1.mono az
  replace ay := ay.mono az
  replace bg : Mem ⟨w, h, noX⟩ br [(a, 0)] [⟨(K13c1 e x15 j f k g l), some 34⟩] [⟨ag, 4, 4, 3, 1, ([.int .i64 40, .int .i64 30, .int .i64 30, .int .i64 37] : List Value), (([.int .i64 40, .int .i64 30, .int .i64 30, .int .i64 37] : List Value) : List Value).length⟩] cf := bg
  have bo : RepS br ag 4 ([40, 30, 30, 37] : List Int) := ⟨_, ay, d5, bj.rowCap (i := 0) rfl⟩
  obtain ⟨x28, ex28, H⟩ := bnd H
  refine D_loud 5 rfl (by kernel_rfl) (by decide) (wantedS_sound bx (by kernel_rfl)) fun K hK => ?_
  refine wc [.c (.slice b x10.1.length d), .c (.slice ag 4 4)] bx bg (law_ints_ok n bg.has x10.1 a1 ([40, 30, 30, 37] : List Int) bo ex28) fun e6 ek fg ch a0 m => ?_
  replace aa := aa.mono (Heap.le_trans az a0)
  replace ab := ab.mono (Heap.le_trans az a0)
  replace ac := ac.mono (Heap.le_trans az a0)
  replace bo := bo.mono a0
  replace ay := ay.mono a0
  obtain rfl := ch
  refine ⟨.one (.c (.bool x28)), rfl, fun d9 (cw : Kn 47 [(a, 0)] ((tB 28 x28) :: (tS 27 ag 4 4) :: (tS 26 b x10.1.length d) :: (tB 25 true) :: (K13m6 x20 x15)) d9) => hK _ _ m.plOk ?_⟩
  refine Dr [6, 7] (dn 7) ((tB 30 x28) :: (K13m6 x20 x15)) cw m fun cb bz => ?_
  rcases Bool.eq_false_or_eq_true (x28) with au | au
  ·
   rw [au, cond_true] at H
   have cx : Kn 47 [(a, 0)] ((tB 30 true) :: (K13m6 x20 x15)) cb := (bz.setB 30 true (by rfl) au).kp
   refine Dr [8, 9, 10, 11] (dn 11) [(tB 34 (x15.2 == 0)), (tI 6 x20.2), (tI 5 x20.1), (tP 3 0 0)] cx m fun cc b0 => ?_
   rcases Bool.eq_false_or_eq_true ((x15.2 == 0)) with av | av
   ·
    rw [av, cond_true] at H
    have cy : Kn 47 [(a, 0)] [(tB 34 true), (tI 6 x20.2), (tI 5 x20.1), (tP 3 0 0)] cc := (b0.setB 34 true (by rfl) av).kp
    refine Dr [12] (dn 12) [(tA 35 (K13c1 e x15 j f k g l)), (tB 34 true), (tI 6 x20.2), (tI 5 x20.1)] cy m fun ev b1 => ?_
    obtain ⟨x36, ex36, H⟩ := bnd H
    refine D_loud 13 rfl (by kernel_rfl) (by decide) (wantedS_sound b1 (by kernel_rfl)) fun K hK => ?_
    refine wc [] b1 m (law_held_ok n m.has  ex36) fun e7 bs fh ci bh bk => ?_
    replace aa := aa.mono bh
    replace ab := ab.mono bh
    replace ac := ac.mono bh
    obtain ⟨_, rfl, ⟨_, _, rfl, ⟨a2, a8, rfl, dw⟩, ⟨_, _, rfl, ⟨a3, a9, rfl, dx⟩, ⟨a4, ba, rfl, dy⟩⟩⟩⟩ := ci
    refine ⟨.one (.agg [.slice a2 x36.holds.length a8, .slice a3 x36.turns.length a9, .slice a4 x36.spares.length ba]), rfl, fun ea (b2 : Kn 47 [(a, 0)] [(tA 36 [.slice a2 x36.holds.length a8, .slice a3 x36.turns.length a9, .slice a4 x36.spares.length ba]), (tA 35 (K13c1 e x15 j f k g l)), (tB 34 true), (tI 6 x20.2), (tI 5 x20.1)] ea) => hK _ _ bk.plOk ?_⟩
    obtain ⟨x37, ex37, H⟩ := bnd H
    refine D_loud 14 rfl (by kernel_rfl) (by decide) (wantedS_sound b2 (by kernel_rfl)) fun K hK => ?_
    refine wc [.agg (K13c1 e x15 j f k g l), .agg [.slice a2 x36.holds.length a8, .slice a3 x36.turns.length a9, .slice a4 x36.spares.length ba]] b2 bk (law_acts_ok n bk.has (Acts.mk x15.1.holds x15.1.turns x15.1.spares) ((rep_pair (rep_slice aa) (rep_pair (rep_slice ab) (rep_slice ac))) : rep bs (Acts.mk x15.1.holds x15.1.turns x15.1.spares) _) x36 ((rep_pair (rep_slice dw) (rep_pair (rep_slice dx) (rep_slice dy))) : rep bs x36 _) ex37) fun e8 el fi cj eo o => ?_
    obtain rfl := cj
    refine ⟨.one (.c (.bool x37)), rfl, fun ec (cz : Kn 47 [(a, 0)] [(tB 37 x37), (tA 36 [.slice a2 x36.holds.length a8, .slice a3 x36.turns.length a9, .slice a4 x36.spares.length ba]), (tA 35 (K13c1 e x15 j f k g l)), (tB 34 true), (tI 6 x20.2), (tI 5 x20.1)] ec) => hK _ _ o.plOk ?_⟩
    refine Dr [15, 16] (dn 16) [(tB 39 x37), (tI 6 x20.2), (tI 5 x20.1)] cz o fun cd b3 => ?_
    rcases Bool.eq_false_or_eq_true (x37) with aw | aw
    ·
     rw [aw, cond_true] at H
     have c0 : Kn 47 [(a, 0)] [(tB 39 true), (tI 6 x20.2), (tI 5 x20.1)] cd := (b3.setB 39 true (by rfl) aw).kp
     refine Dr [17, 18, 19, 20] (dn 20) [(tB 43 (x20.2 == 0)), (tI 5 x20.1)] c0 o fun ce b4 => ?_
     rcases Bool.eq_false_or_eq_true ((x20.2 == 0)) with ax | ax
     ·
      rw [ax, cond_true] at H
      have c2 : Kn 47 [(a, 0)] [(tB 43 true), (tI 5 x20.1)] ce := (b4.setB 43 true (by rfl) ax).kp
      refine Dr [21, 22, 23, 24] (dn 24) [(tB 0 (x20.1 == 35))] c2 o fun ew c3 => ?_
      refine wpD_end (by kernel_rfl) (wp_ret ?_)
      obtain rfl := Option.some.inj H
      exact rt (.one (.c (.bool (x20.1 == 35)))) c3 o rfl
     ·
      rw [ax, cond_false] at H
      have c4 : Kn 47 [(a, 0)] [(tB 43 false), (tI 5 x20.1)] ce := (b4.setB 43 false (by rfl) ax).kp
      refine Dr [21, 22, 23, 24] (dn 24) [(tB 0 false)] c4 o fun ex c5 => ?_
      refine wpD_end (by kernel_rfl) (wp_ret ?_)
      obtain rfl := Option.some.inj H
      exact rt (.one (.c (.bool false))) c5 o rfl
    ·
     rw [aw, cond_false] at H
     have c6 : Kn 47 [(a, 0)] [(tB 39 false), (tI 6 x20.2), (tI 5 x20.1)] cd := (b3.setB 39 false (by rfl) aw).kp
     refine Dr [17, 18, 19, 20, 21, 22, 23, 24] (dn 24) [(tB 0 false)] c6 o fun ey c7 => ?_
     refine wpD_end (by kernel_rfl) (wp_ret ?_)
     obtain rfl := Option.some.inj H
     exact rt (.one (.c (.bool false))) c7 o rfl
   ·
    rw [av, cond_false] at H
    have c8 : Kn 47 [(a, 0)] [(tB 34 false), (tI 6 x20.2), (tI 5 x20.1), (tP 3 0 0)] cc := (b0.setB 34 false (by rfl) av).kp
    refine Dr [12, 13, 14, 15, 16, 17, 18, 19, 20, 21, 22, 23, 24] (dn 24) [(tB 0 false)] c8 m fun ez da => ?_
    refine wpD_end (by kernel_rfl) (wp_ret ?_)
    obtain rfl := Option.some.inj H
    exact rt (.one (.c (.bool false))) da m rfl
  ·
   rw [au, cond_false] at H
   have db : Kn 47 [(a, 0)] ((tB 30 false) :: (K13m6 x20 x15)) cb := (bz.setB 30 false (by rfl) au).kp
   refine Dr [8, 9, 10, 11, 12, 13, 14, 15, 16, 17, 18, 19, 20, 21, 22, 23, 24] (dn 24) [(tB 0 false)] db m fun e0 dc => ?_
   refine wpD_end (by kernel_rfl) (wp_ret ?_)
   obtain rfl := Option.some.inj H
   exact rt (.one (.c (.bool false))) dc m rfl
 ·
  rw [ar, cond_false] at H
  have dd : Kn 47 [(a, 0)] [(tB 25 false), (tI 6 x20.2), (tI 5 x20.1), (tI 4 x15.2), (tP 3 0 0), (tS 1 b x10.1.length d)] ca := (bv.setB 25 false (by rfl) ar).kp
  refine Dr [3, 4, 5, 6, 7, 8, 9, 10, 11, 12, 13, 14, 15, 16, 17, 18, 19, 20, 21, 22, 23, 24] (dn 24) [(tB 0 false)] dd p fun e1 de => ?_
  refine wpD_end (by kernel_rfl) (wp_ret ?_)
  obtain rfl := Option.some.inj H
  exact rt (.one (.c (.bool false))) de p rfl
end Go.Proofs.Ytokchpjijlebiaa
