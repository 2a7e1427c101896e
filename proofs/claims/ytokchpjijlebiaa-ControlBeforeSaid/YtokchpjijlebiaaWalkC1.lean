/- Each call computes its plain function: printed by dec.py. -/
import Derived.Test.YtokchpjijlebiaaProg
import Derived.Test.YtokchpjijlebiaaPure
import Derived.Test.YtokchpjijlebiaaWalkA
import Derived.Test.YtokchpjijlebiaaWalkA1
import Derived.Test.YtokchpjijlebiaaWalkB
import Derived.Test.YtokchpjijlebiaaWalkB1
import Derived.Test.YtokchpjijlebiaaWalkZ
set_option linter.all false
namespace Go.Proofs.Ytokchpjijlebiaa
open Go Go.RowKit
open Rep (rep)
open KRep (kv)
open VRep (rv)
abbrev K13c1 (e : Option Addr) (x15 : Acts × Int) (j : Nat) (f : Option Addr) (k : Nat) (g : Option Addr) (l : Nat) : List SC := [.slice e x15.1.holds.length j, .slice f x15.1.turns.length k, .slice g x15.1.spares.length l]
abbrev K13c2 (ac : Option Addr) (x8 : Route) (ad : Nat) (aa : Option Addr) (ae : Nat) (ab : Option Addr) (af : Nat) : List SC := [.slice ac x8.legs.length ad, .int .i64 x8.turn.lo, .int .i64 x8.turn.hi, .slice aa x8.buses.length ae, .slice ab x8.spares.length af, .int .i64 x8.unit, .int .i64 x8.gap, .int .i64 x8.fr, .int .i64 x8.to_]
abbrev K13c3 (am : Option Addr) (x14 : Route) (au : Nat) (an : Option Addr) (av : Nat) (ao : Option Addr) (aw : Nat) : List SC := [.slice am x14.legs.length au, .int .i64 x14.turn.lo, .int .i64 x14.turn.hi, .slice an x14.buses.length av, .slice ao x14.spares.length aw, .int .i64 x14.unit, .int .i64 x14.gap, .int .i64 x14.fr, .int .i64 x14.to_]
abbrev K13c4 (ai : Option Addr) (x19 : Route) (ap : Nat) (aj : Option Addr) (aq : Nat) (ak : Option Addr) (ar : Nat) : List SC := [.slice ai x19.legs.length ap, .int .i64 x19.turn.lo, .int .i64 x19.turn.hi, .slice aj x19.buses.length aq, .slice ak x19.spares.length ar, .int .i64 x19.unit, .int .i64 x19.gap, .int .i64 x19.fr, .int .i64 x19.to_]
abbrev K13m5 (x10 : (List Int) × Int) (b : Option Addr) (d : Nat) : TM := [(tI 2 x10.2), (tS 1 b x10.1.length d)]
abbrev K13m6 (x20 : Int × Int) (x15 : Acts × Int) : TM := [(tI 6 x20.2), (tI 5 x20.1), (tI 4 x15.2), (tP 3 0 0)]
set_option maxRecDepth 100000 in
set_option maxHeartbeats 4000000 in
theorem law_awake_ok (n : Nat) {h : Heap} {w : World} (hh : Has h w)  {r : Bool} (H : law_awake n  = some r) :
  Calls Try.prog 13 #[] w (Ret (fun h v => v = .bool r) h w) := by
 refine enter 47 [] Try.func13 rfl rfl rfl rfl fun t hk => ?_
 have hm := Mem.begin h w hh
 unfold law_awake at H
 refine wp_seq (wp_region_from (R_runk 0 1 [] [] hk hm.plOk (by kernel_rfl) fun er dp => ?_))
 refine wpFrom_end (by decide) (wp_seq (wp_region_from ?_))
 obtain ⟨x8, ex8, H⟩ := bnd H
 refine wpFrom_loud _ rfl (rfl) fun K hK => ?_
 refine wp_call [] _ dp hm rfl rfl (by decide) (by rfl) rfl (fun _ _ => by kernel_rfl) (law_line_ok n hm.has  ex8) fun e9 eo fk c2 ep co => ?_
 obtain ⟨_, rfl, ⟨_, _, rfl, ⟨ac, ad, rfl, a7⟩, ⟨_, _, rfl, ⟨_, _, rfl, rfl, rfl⟩, ⟨_, _, rfl, ⟨aa, ae, rfl, a8⟩, ⟨_, _, rfl, ⟨ab, af, rfl, a9⟩, ⟨_, _, rfl, rfl, ⟨_, _, rfl, rfl, ⟨_, _, rfl, rfl, rfl⟩⟩⟩⟩⟩⟩⟩⟩ := c2
 refine ⟨.one (.agg (K13c2 ac x8 ad aa ae ab af)), rfl, fun ec (dg : Kn 47 [] [(tA 8 (K13c2 ac x8 ad aa ae ab af))] ec) => hK _ _ ?_⟩
 obtain ⟨x9, ex9, H⟩ := bnd H
 refine wpFrom_loud _ rfl (rfl) fun K hK => ?_
 refine wp_call [] _ dg co rfl rfl (by decide) (by rfl) rfl (fun _ _ => by kernel_rfl) (law_free_ok n co.has  ex9) fun e8 b9 fi cz bp cl => ?_
 replace a7 := a7.mono bp
 replace a8 := a8.mono bp
 replace a9 := a9.mono bp
 obtain ⟨_, rfl, ⟨_, _, rfl, ⟨bd, bj, rfl, b1⟩, ⟨_, _, rfl, ⟨be, bk, rfl, b2⟩, ⟨bf, bl, rfl, b3⟩⟩⟩⟩ := cz
 refine ⟨.one (.agg [.slice bd x9.holds.length bj, .slice be x9.turns.length bk, .slice bf x9.spares.length bl]), rfl, fun ee (dv : Kn 47 [] [(tA 9 [.slice bd x9.holds.length bj, .slice be x9.turns.length bk, .slice bf x9.spares.length bl]), (tA 8 (K13c2 ac x8 ad aa ae ab af))] ee) => hK _ _ ?_⟩
 obtain ⟨x10, ex10, H⟩ := bnd H
 refine wpFrom_loud _ rfl (rfl) fun K hK => ?_
 refine wp_call [.agg (K13c2 ac x8 ad aa ae ab af), .agg [.slice bd x9.holds.length bj, .slice be x9.turns.length bk, .slice bf x9.spares.length bl]] _ dv cl rfl rfl (by decide) (by rfl) rfl (fun _ _ => by kernel_rfl) (control_Worst_ok n cl.has x8 ((rep_pair (rep_slice a7) (rep_pair (rep_pair rep_int rep_int) (rep_pair (rep_slice a8) (rep_pair (rep_slice a9) (rep_pair rep_int (rep_pair rep_int (rep_pair rep_int rep_int))))))) : rep b9 x8 _) x9 ((rep_pair (rep_slice b1) (rep_pair (rep_slice b2) (rep_slice b3))) : rep b9 x9 _) ex10) fun fa en fj c0 az bs => ?_
 replace a7 := a7.mono az
 replace a8 := a8.mono az
 replace a9 := a9.mono az
 replace b1 := b1.mono az
 replace b2 := b2.mono az
 replace b3 := b3.mono az
 obtain ⟨_, _, rfl, ⟨b, d, rfl, m⟩, rfl⟩ := c0
 refine ⟨.tup [.c (.slice b x10.1.length d), .c (.int .i64 x10.2)], rfl, fun ef (dw : Kn 47 [] [(10, .tup [.c (.slice b x10.1.length d), .c (.int .i64 x10.2)]), (tA 9 [.slice bd x9.holds.length bj, .slice be x9.turns.length bk, .slice bf x9.spares.length bl]), (tA 8 (K13c2 ac x8 ad aa ae ab af))] ef) => hK _ _ ?_⟩
 refine R_runk 3 5 [2, 1] (K13m5 x10 b d) dw bs.plOk (by kernel_rfl) fun e1 dx => ?_
 refine wpFrom_end (by decide) (wp_seq (wp_region_from ?_))
 obtain ⟨x14, ex14, H⟩ := bnd H
 refine wpFrom_loud _ rfl (rfl) fun K hK => ?_
 refine wp_call [] _ dx bs rfl rfl (by decide) (by rfl) rfl (fun _ _ => by kernel_rfl) (law_line_ok n bs.has  ex14) fun fb c5 fl c1 d4 cm => ?_
 replace m := m.mono d4
 obtain ⟨_, rfl, ⟨_, _, rfl, ⟨am, au, rfl, b4⟩, ⟨_, _, rfl, ⟨_, _, rfl, rfl, rfl⟩, ⟨_, _, rfl, ⟨an, av, rfl, b5⟩, ⟨_, _, rfl, ⟨ao, aw, rfl, b6⟩, ⟨_, _, rfl, rfl, ⟨_, _, rfl, rfl, ⟨_, _, rfl, rfl, rfl⟩⟩⟩⟩⟩⟩⟩⟩ := c1
 refine ⟨.one (.agg (K13c3 am x14 au an av ao aw)), rfl, fun eg (dy : Kn 47 [] ((tA 14 (K13c3 am x14 au an av ao aw)) :: (K13m5 x10 b d)) eg) => hK _ _ ?_⟩
 obtain ⟨x15, ex15, H⟩ := bnd H
 refine wpFrom_loud _ rfl (rfl) fun K hK => ?_
 refine wp_call [.agg (K13c3 am x14 au an av ao aw)] _ dy cm rfl rfl (by decide) (by rfl) rfl (fun _ _ => by kernel_rfl) (control_Best_ok n cm.has x14 ((rep_pair (rep_slice b4) (rep_pair (rep_pair rep_int rep_int) (rep_pair (rep_slice b5) (rep_pair (rep_slice b6) (rep_pair rep_int (rep_pair rep_int (rep_pair rep_int rep_int))))))) : rep c5 x14 _) ex15) fun fc ca fm c3 bn cn => ?_
 replace m := m.mono bn
 replace b4 := b4.mono bn
 replace b5 := b5.mono bn
 replace b6 := b6.mono bn
 obtain ⟨_, _, rfl, ⟨_, rfl, ⟨_, _, rfl, ⟨e, j, rfl, o⟩, ⟨_, _, rfl, ⟨f, k, rfl, p⟩, ⟨g, l, rfl, q⟩⟩⟩⟩, rfl⟩ := c3
 refine ⟨.tup [.agg (K13c1 e x15 j f k g l), .c (.int .i64 x15.2)], rfl, fun eh (dz : Kn 47 [] ((15, .tup [.agg (K13c1 e x15 j f k g l), .c (.int .i64 x15.2)]) :: (tA 14 (K13c3 am x14 au an av ao aw)) :: (K13m5 x10 b d)) eh) => hK _ _ ?_⟩
 refine R_runk 2 3 [17, 16, 2, 1] ((tI 17 x15.2) :: (tA 16 (K13c1 e x15 j f k g l)) :: (K13m5 x10 b d)) dz cn.plOk (by kernel_rfl) fun e2 d0 => ?_
 refine wpFrom_loud _ rfl (rfl) fun K hK => ?_
 refine wp_alloc [.slice none 0 0, .slice none 0 0, .slice none 0 0] d0 cn rfl rfl (by decide) (by kernel_rfl) (by kernel_rfl) (by kernel_rfl) fun a ei ej (d1 : Kn 47 [(a, 0)] ((tP 3 0 0) :: (tI 17 x15.2) :: (tA 16 (K13c1 e x15 j f k g l)) :: (K13m5 x10 b d)) ei) (d5 : Mem ⟨w, h, noX⟩ ca [(a, 0)] [⟨[.slice none 0 0, .slice none 0 0, .slice none 0 0], some 34⟩] [] ej) => hK _ _ ?_
 refine wpFrom_loud _ rfl (rfl) fun K hK => ?_
 refine wp_store 0 0 (.agg (K13c1 e x15 j f k g l)) (K13c1 e x15 j f k g l) d1 d5 rfl rfl (by rfl) (by rfl) (by rfl) (by kernel_rfl) (by kernel_rfl) (by rfl) fun ek d2 (bt : Mem ⟨w, h, noX⟩ ca [(a, 0)] [⟨(K13c1 e x15 j f k g l), some 34⟩] [] ek) => hK _ _ ?_
 refine R_runk 7 1 [4, 3, 2, 1] ((tI 4 x15.2) :: (tP 3 0 0) :: (K13m5 x10 b d)) d2 bt.plOk (by kernel_rfl) fun e3 d3 => ?_
 refine wpFrom_end (by decide) (wp_seq (wp_region_from ?_))
 obtain ⟨x19, ex19, H⟩ := bnd H
 refine wpFrom_loud _ rfl (rfl) fun K hK => ?_
 refine wp_call [] _ d3 bt rfl rfl (by decide) (by rfl) rfl (fun _ _ => by kernel_rfl) (law_line_ok n bt.has  ex19) fun fd c6 fn c4 bm ck => ?_
 replace m := m.mono bm
 replace o := o.mono bm
 replace p := p.mono bm
 replace q := q.mono bm
 obtain ⟨_, rfl, ⟨_, _, rfl, ⟨ai, ap, rfl, bu⟩, ⟨_, _, rfl, ⟨_, _, rfl, rfl, rfl⟩, ⟨_, _, rfl, ⟨aj, aq, rfl, bv⟩, ⟨_, _, rfl, ⟨ak, ar, rfl, bw⟩, ⟨_, _, rfl, rfl, ⟨_, _, rfl, rfl, ⟨_, _, rfl, rfl, rfl⟩⟩⟩⟩⟩⟩⟩⟩ := c4
 refine ⟨.one (.agg (K13c4 ai x19 ap aj aq ak ar)), rfl, fun d7 (c7 : Kn 47 [(a, 0)] ((tA 19 (K13c4 ai x19 ap aj aq ak ar)) :: (tI 4 x15.2) :: (tP 3 0 0) :: (K13m5 x10 b d)) d7) => hK _ _ ?_⟩
 obtain ⟨x20, ex20, H⟩ := bnd H
 refine wpFrom_loud _ rfl (rfl) fun K hK => ?_
 refine wp_call [.agg (K13c4 ai x19 ap aj aq ak ar)] _ c7 ck rfl rfl (by decide) (by rfl) rfl (fun _ _ => by kernel_rfl) (control_Least_ok n ck.has x19 ((rep_pair (rep_slice bu) (rep_pair (rep_pair rep_int rep_int) (rep_pair (rep_slice bv) (rep_pair (rep_slice bw) (rep_pair rep_int (rep_pair rep_int (rep_pair rep_int rep_int))))))) : rep c6 x19 _) ex20) fun e4 ax fe cv ag z => ?_
 replace m := m.mono ag
 replace o := o.mono ag
 replace p := p.mono ag
 replace q := q.mono ag
 replace bu := bu.mono ag
 replace bv := bv.mono ag
 replace bw := bw.mono ag
 obtain ⟨_, _, rfl, rfl, rfl⟩ := cv
 refine ⟨.tup [.c (.int .i64 x20.1), .c (.int .i64 x20.2)], rfl, fun d8 (c8 : Kn 47 [(a, 0)] ((20, .tup [.c (.int .i64 x20.1), .c (.int .i64 x20.2)]) :: (tA 19 (K13c4 ai x19 ap aj aq ak ar)) :: (tI 4 x15.2) :: (tP 3 0 0) :: (K13m5 x10 b d)) d8) => hK _ _ ?_⟩
 refine R_runk 2 5 [6, 5, 4, 3, 2, 1] ((tI 6 x20.2) :: (tI 5 x20.1) :: (tI 4 x15.2) :: (tP 3 0 0) :: (K13m5 x10 b d)) c8 z.plOk (by kernel_rfl) fun es c9 => ?_
 refine wpFrom_end (by decide) (wp_seq (wp_region_G (by kernel_rfl) ?_))
 replace z := z.drew
 refine wpG_of_D [] [(a, 0)] [⟨(K13c1 e x15 j f k g l), some 34⟩] ?_
 refine D_run [0, 1, 2] [2, 1, 0] [25, 6, 5, 4, 3, 1] [(tB 25 (x10.2 == 0)), (tI 6 x20.2), (tI 5 x20.1), (tI 4 x15.2), (tP 3 0 0), (tS 1 b x10.1.length d)] (fun _ _ _ _ _ h => h) c9 z.plOk (by kernel_rfl) (by rfl) (by kernel_rfl) fun cp cb => ?_
 rcases Bool.eq_false_or_eq_true ((x10.2 == 0)) with a0 | a0
 ·
  rw [a0, cond_true] at H
  have da : Kn 47 [(a, 0)] [(tB 25 true), (tI 6 x20.2), (tI 5 x20.1), (tI 4 x15.2), (tP 3 0 0), (tS 1 b x10.1.length d)] cp := (cb.setB 25 true (by rfl) a0).keep [25, 6, 5, 4, 3, 1] (by rfl)
  refine D_run [3] [3, 2, 1, 0] [26, 25, 6, 5, 4, 3] ((tS 26 b x10.1.length d) :: (tB 25 true) :: (K13m6 x20 x15)) (fun _ _ _ _ _ h => h) da z.plOk (by kernel_rfl) (by rfl) (by kernel_rfl) fun et cc => ?_
  refine D_loud 4 rfl (by kernel_rfl) (by decide) (wantedS_sound cc (by kernel_rfl)) fun K hK => ?_
  refine wp_buildSlice 3 1 [.int .i64 40, .int .i64 30, .int .i64 30, .int .i64 37] cc z rfl rfl (by decide) (by kernel_rfl) (by rfl) (by rfl) rfl (by decide) fun al d9 cu (cd : Kn 47 [(a, 0)] ((tS 27 al 4 4) :: (tS 26 b x10.1.length d) :: (tB 25 true) :: (K13m6 x20 x15)) d9) (bq : Mem ⟨w, h, noX⟩ ax [(a, 0)] [⟨(K13c1 e x15 j f k g l), some 34⟩] [⟨al, 4, 4, 3, 1, ([.int .i64 40, .int .i64 30, .int .i64 30, .int .i64 37] : List Value), 0⟩] cu) => ?_
  have u : Cells ax ([40, 30, 30, 37] : List Int) ([.int .i64 40, .int .i64 30, .int .i64 30, .int .i64 37] : List Value) := ⟨_, _, rfl, (rep_int : rep ax (40 : Int) _), ⟨_, _, rfl, (rep_int : rep ax (30 : Int) _), ⟨_, _, rfl, (rep_int : rep ax (30 : Int) _), ⟨_, _, rfl, (rep_int : rep ax (37 : Int) _), rfl⟩⟩⟩⟩
  refine hK _ _ bq.plOk ?_
  obtain ⟨b7, a5, d6, bo⟩ := bq.settle (i := 0) rfl
  replace m := m.mono a5
  replace o := o.mono a5
  replace p := p.mono a5
  replace q := q.mono a5
  replace u := u.mono a5
  replace bo : Mem ⟨w, h, noX⟩ b7 [(a, 0)] [⟨(K13c1 e x15 j f k g l), some 34⟩] [⟨al, 4, 4, 3, 1, ([.int .i64 40, .int .i64 30, .int .i64 30, .int .i64 37] : List Value), (([.int .i64 40, .int .i64 30, .int .i64 30, .int .i64 37] : List Value) : List Value).length⟩] cu := bo
  have ah : RepS b7 al 4 ([40, 30, 30, 37] : List Int) := ⟨_, u, d6, bq.rowCap (i := 0) rfl⟩
  obtain ⟨x28, ex28, H⟩ := bnd H
  refine D_loud 5 rfl (by kernel_rfl) (by decide) (wantedS_sound cd (by kernel_rfl)) fun K hK => ?_
  refine wp_call [.c (.slice b x10.1.length d), .c (.slice al 4 4)] _ cd bo rfl rfl (by decide) (by rfl) rfl (fun _ _ => by kernel_rfl) (law_ints_ok n bo.has x10.1 m ([40, 30, 30, 37] : List Int) ah ex28) fun e5 el ff cw ay s => ?_
  replace m := m.mono ay
  replace o := o.mono ay
  replace p := p.mono ay
  replace q := q.mono ay
  replace ah := ah.mono ay
  replace u := u.mono ay
  obtain rfl := cw
  refine ⟨.one (.c (.bool x28)), rfl, fun ea (db : Kn 47 [(a, 0)] ((tB 28 x28) :: (tS 27 al 4 4) :: (tS 26 b x10.1.length d) :: (tB 25 true) :: (K13m6 x20 x15)) ea) => hK _ _ s.plOk ?_⟩
  refine D_run [6, 7] [7, 6, 5, 4, 3, 2, 1, 0] [30, 6, 5, 4, 3] ((tB 30 x28) :: (K13m6 x20 x15)) (fun _ _ _ _ _ h => h) db s.plOk (by kernel_rfl) (by rfl) (by kernel_rfl) fun cq ce => ?_
  rcases Bool.eq_false_or_eq_true (x28) with a1 | a1
  ·
   rw [a1, cond_true] at H
   have dc : Kn 47 [(a, 0)] ((tB 30 true) :: (K13m6 x20 x15)) cq := (ce.setB 30 true (by rfl) a1).keep [30, 6, 5, 4, 3] (by rfl)
   refine D_run [8, 9, 10, 11] [11, 10, 9, 8, 7, 6, 5, 4, 3, 2, 1, 0] [34, 6, 5, 3] [(tB 34 (x15.2 == 0)), (tI 6 x20.2), (tI 5 x20.1), (tP 3 0 0)] (fun _ _ _ _ _ h => h) dc s.plOk (by kernel_rfl) (by rfl) (by kernel_rfl) fun cr cf => ?_
   rcases Bool.eq_false_or_eq_true ((x15.2 == 0)) with a2 | a2
   ·
    rw [a2, cond_true] at H
    have dd : Kn 47 [(a, 0)] [(tB 34 true), (tI 6 x20.2), (tI 5 x20.1), (tP 3 0 0)] cr := (cf.setB 34 true (by rfl) a2).keep [34, 6, 5, 3] (by rfl)
    refine D_run [12] [12, 11, 10, 9, 8, 7, 6, 5, 4, 3, 2, 1, 0] [35, 34, 6, 5] [(tA 35 (K13c1 e x15 j f k g l)), (tB 34 true), (tI 6 x20.2), (tI 5 x20.1)] (fun _ _ _ _ _ h => h) dd s.plOk (by kernel_rfl) (by rfl) (by kernel_rfl) fun eu cg => ?_
    obtain ⟨x36, ex36, H⟩ := bnd H
    refine D_loud 13 rfl (by kernel_rfl) (by decide) (wantedS_sound cg (by kernel_rfl)) fun K hK => ?_
    refine wp_call [] _ cg s rfl rfl (by decide) (by rfl) rfl (fun _ _ => by kernel_rfl) (law_held_ok n s.has  ex36) fun e6 b8 fg cx a6 br => ?_
    replace o := o.mono a6
    replace p := p.mono a6
    replace q := q.mono a6
    replace ah := ah.mono a6
    replace u := u.mono a6
    obtain ⟨_, rfl, ⟨_, _, rfl, ⟨ba, bg, rfl, bx⟩, ⟨_, _, rfl, ⟨bb, bh, rfl, bz⟩, ⟨bc, bi, rfl, b0⟩⟩⟩⟩ := cx
    refine ⟨.one (.agg [.slice ba x36.holds.length bg, .slice bb x36.turns.length bh, .slice bc x36.spares.length bi]), rfl, fun eb (ch : Kn 47 [(a, 0)] [(tA 36 [.slice ba x36.holds.length bg, .slice bb x36.turns.length bh, .slice bc x36.spares.length bi]), (tA 35 (K13c1 e x15 j f k g l)), (tB 34 true), (tI 6 x20.2), (tI 5 x20.1)] eb) => hK _ _ br.plOk ?_⟩
    obtain ⟨x37, ex37, H⟩ := bnd H
    refine D_loud 14 rfl (by kernel_rfl) (by decide) (wantedS_sound ch (by kernel_rfl)) fun K hK => ?_
    refine wp_call [.agg (K13c1 e x15 j f k g l), .agg [.slice ba x36.holds.length bg, .slice bb x36.turns.length bh, .slice bc x36.spares.length bi]] _ ch br rfl rfl (by decide) (by rfl) rfl (fun _ _ => by kernel_rfl) (law_acts_ok n br.has (Acts.mk x15.1.holds x15.1.turns x15.1.spares) ((rep_pair (rep_slice o) (rep_pair (rep_slice p) (rep_slice q))) : rep b8 (Acts.mk x15.1.holds x15.1.turns x15.1.spares) _) x36 ((rep_pair (rep_slice bx) (rep_pair (rep_slice bz) (rep_slice b0))) : rep b8 x36 _) ex37) fun e7 em fh cy y x => ?_
    replace o := o.mono y
    replace p := p.mono y
    replace q := q.mono y
    replace ah := ah.mono y
    replace bx := bx.mono y
    replace bz := bz.mono y
    replace b0 := b0.mono y
    replace u := u.mono y
    obtain rfl := cy
    refine ⟨.one (.c (.bool x37)), rfl, fun ed (de : Kn 47 [(a, 0)] [(tB 37 x37), (tA 36 [.slice ba x36.holds.length bg, .slice bb x36.turns.length bh, .slice bc x36.spares.length bi]), (tA 35 (K13c1 e x15 j f k g l)), (tB 34 true), (tI 6 x20.2), (tI 5 x20.1)] ed) => hK _ _ x.plOk ?_⟩
    refine D_run [15, 16] [16, 15, 14, 13, 12, 11, 10, 9, 8, 7, 6, 5, 4, 3, 2, 1, 0] [39, 6, 5] [(tB 39 x37), (tI 6 x20.2), (tI 5 x20.1)] (fun _ _ _ _ _ h => h) de x.plOk (by kernel_rfl) (by rfl) (by kernel_rfl) fun cs ci => ?_
    rcases Bool.eq_false_or_eq_true (x37) with a3 | a3
    ·
     rw [a3, cond_true] at H
     have df : Kn 47 [(a, 0)] [(tB 39 true), (tI 6 x20.2), (tI 5 x20.1)] cs := (ci.setB 39 true (by rfl) a3).keep [39, 6, 5] (by rfl)
     refine D_run [17, 18, 19, 20] [20, 19, 18, 17, 16, 15, 14, 13, 12, 11, 10, 9, 8, 7, 6, 5, 4, 3, 2, 1, 0] [43, 5] [(tB 43 (x20.2 == 0)), (tI 5 x20.1)] (fun _ _ _ _ _ h => h) df x.plOk (by kernel_rfl) (by rfl) (by kernel_rfl) fun ct cj => ?_
     rcases Bool.eq_false_or_eq_true ((x20.2 == 0)) with a4 | a4
     ·
      rw [a4, cond_true] at H
      have dh : Kn 47 [(a, 0)] [(tB 43 true), (tI 5 x20.1)] ct := (cj.setB 43 true (by rfl) a4).keep [43, 5] (by rfl)
      refine D_run [21, 22, 23, 24] [24, 23, 22, 21, 20, 19, 18, 17, 16, 15, 14, 13, 12, 11, 10, 9, 8, 7, 6, 5, 4, 3, 2, 1, 0] [0] [(tB 0 (x20.1 == 35))] (fun _ _ _ _ _ h => h) dh x.plOk (by kernel_rfl) (by rfl) (by kernel_rfl) fun ev di => ?_
      refine wpD_end (by kernel_rfl) (wp_ret ?_)
      obtain rfl := Option.some.inj H
      exact ret_ok (.one (.c (.bool (x20.1 == 35)))) di x (by kernel_rfl) rfl
     ·
      rw [a4, cond_false] at H
      have dj : Kn 47 [(a, 0)] [(tB 43 false), (tI 5 x20.1)] ct := (cj.setB 43 false (by rfl) a4).keep [43, 5] (by rfl)
      refine D_run [21, 22, 23, 24] [24, 23, 22, 21, 20, 19, 18, 17, 16, 15, 14, 13, 12, 11, 10, 9, 8, 7, 6, 5, 4, 3, 2, 1, 0] [0] [(tB 0 false)] (fun _ _ _ _ _ h => h) dj x.plOk (by kernel_rfl) (by rfl) (by kernel_rfl) fun ew dk => ?_
      refine wpD_end (by kernel_rfl) (wp_ret ?_)
      obtain rfl := Option.some.inj H
      exact ret_ok (.one (.c (.bool false))) dk x (by kernel_rfl) rfl
    ·
     rw [a3, cond_false] at H
     have dl : Kn 47 [(a, 0)] [(tB 39 false), (tI 6 x20.2), (tI 5 x20.1)] cs := (ci.setB 39 false (by rfl) a3).keep [39, 6, 5] (by rfl)
     refine D_run [17, 18, 19, 20, 21, 22, 23, 24] [24, 23, 22, 21, 20, 19, 18, 17, 16, 15, 14, 13, 12, 11, 10, 9, 8, 7, 6, 5, 4, 3, 2, 1, 0] [0] [(tB 0 false)] (fun _ _ _ _ _ h => h) dl x.plOk (by kernel_rfl) (by rfl) (by kernel_rfl) fun ex dm => ?_
     refine wpD_end (by kernel_rfl) (wp_ret ?_)
     obtain rfl := Option.some.inj H
     exact ret_ok (.one (.c (.bool false))) dm x (by kernel_rfl) rfl
   ·
    rw [a2, cond_false] at H
    have dn : Kn 47 [(a, 0)] [(tB 34 false), (tI 6 x20.2), (tI 5 x20.1), (tP 3 0 0)] cr := (cf.setB 34 false (by rfl) a2).keep [34, 6, 5, 3] (by rfl)
    refine D_run [12, 13, 14, 15, 16, 17, 18, 19, 20, 21, 22, 23, 24] [24, 23, 22, 21, 20, 19, 18, 17, 16, 15, 14, 13, 12, 11, 10, 9, 8, 7, 6, 5, 4, 3, 2, 1, 0] [0] [(tB 0 false)] (fun _ _ _ _ _ h => h) dn s.plOk (by kernel_rfl) (by rfl) (by kernel_rfl) fun ey dq => ?_
    refine wpD_end (by kernel_rfl) (wp_ret ?_)
    obtain rfl := Option.some.inj H
    exact ret_ok (.one (.c (.bool false))) dq s (by kernel_rfl) rfl
  ·
   rw [a1, cond_false] at H
   have dr : Kn 47 [(a, 0)] ((tB 30 false) :: (K13m6 x20 x15)) cq := (ce.setB 30 false (by rfl) a1).keep [30, 6, 5, 4, 3] (by rfl)
   refine D_run [8, 9, 10, 11, 12, 13, 14, 15, 16, 17, 18, 19, 20, 21, 22, 23, 24] [24, 23, 22, 21, 20, 19, 18, 17, 16, 15, 14, 13, 12, 11, 10, 9, 8, 7, 6, 5, 4, 3, 2, 1, 0] [0] [(tB 0 false)] (fun _ _ _ _ _ h => h) dr s.plOk (by kernel_rfl) (by rfl) (by kernel_rfl) fun ez ds => ?_
   refine wpD_end (by kernel_rfl) (wp_ret ?_)
   obtain rfl := Option.some.inj H
   exact ret_ok (.one (.c (.bool false))) ds s (by kernel_rfl) rfl
 ·
  rw [a0, cond_false] at H
  have dt : Kn 47 [(a, 0)] [(tB 25 false), (tI 6 x20.2), (tI 5 x20.1), (tI 4 x15.2), (tP 3 0 0), (tS 1 b x10.1.length d)] cp := (cb.setB 25 false (by rfl) a0).keep [25, 6, 5, 4, 3, 1] (by rfl)
  refine D_run [3, 4, 5, 6, 7, 8, 9, 10, 11, 12, 13, 14, 15, 16, 17, 18, 19, 20, 21, 22, 23, 24] [24, 23, 22, 21, 20, 19, 18, 17, 16, 15, 14, 13, 12, 11, 10, 9, 8, 7, 6, 5, 4, 3, 2, 1, 0] [0] [(tB 0 false)] (fun _ _ _ _ _ h => h) dt z.plOk (by kernel_rfl) (by rfl) (by kernel_rfl) fun e0 du => ?_
  refine wpD_end (by kernel_rfl) (wp_ret ?_)
  obtain rfl := Option.some.inj H
  exact ret_ok (.one (.c (.bool false))) du z (by kernel_rfl) rfl
end Go.Proofs.Ytokchpjijlebiaa
