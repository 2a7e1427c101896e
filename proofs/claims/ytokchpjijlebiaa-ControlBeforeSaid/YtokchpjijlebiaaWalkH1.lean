/- Each call computes its plain function: printed by dec.py. -/
import Derived.Test.YtokchpjijlebiaaProg
import Derived.Test.YtokchpjijlebiaaPure
import Derived.Test.YtokchpjijlebiaaWalkA
import Derived.Test.YtokchpjijlebiaaWalkB
import Derived.Test.YtokchpjijlebiaaWalkB1
import Derived.Test.YtokchpjijlebiaaWalkC
import Derived.Test.YtokchpjijlebiaaWalkC1
import Derived.Test.YtokchpjijlebiaaWalkD
set_option linter.all false
namespace Go.Proofs.Ytokchpjijlebiaa
open Go Go.RowKit
open Rep (rep)
open KRep (kv)
open VRep (rv)
abbrev K7c1 (x85 : Bus) : List SC := [.int .i64 x85.stop, .int .i64 x85.tm.lo, .int .i64 x85.tm.hi]
abbrev K7c2 (q : Option Addr) (ao : List Int) (u : Nat) (b : Option Addr) (a : Acts) (f : Nat) (d : Option Addr) (g : Nat) : List SC := [.slice q ao.length u, .slice b a.turns.length f, .slice d a.spares.length g]
abbrev K7c3 (y : Option Addr) (a : Acts) (aa : Nat) (b : Option Addr) (f : Nat) (d : Option Addr) (g : Nat) : List SC := [.slice y a.holds.length aa, .slice b a.turns.length f, .slice d a.spares.length g]
abbrev K7e4 (l m o ad : Nat) (at_ : IK .u8) (r_ : Route) : Env := [(l, 0), (m, 0), (o, 0), (ad, 0 + (Int.tmod (IntKind.i64.wrap at_.n) ((r_.buses.length : Nat) : Int) : Int).toNat * 1)]
abbrev K7c5 (x : Option Addr) (r_ : Route) (ab : Nat) (p : Option Addr) (s : Nat) (z : Option Addr) (ac : Nat) : List SC := [.slice x r_.legs.length ab, .int .i64 r_.turn.lo, .int .i64 r_.turn.hi, .slice p r_.buses.length s, .slice z r_.spares.length ac, .int .i64 r_.unit, .int .i64 r_.gap, .int .i64 r_.fr, .int .i64 r_.to_]
abbrev K7c6 (be : Option Addr) (x47 : Route) (bk : Nat) (bf : Option Addr) (bl : Nat) (bg : Option Addr) (bm : Nat) : List SC := [.slice be x47.legs.length bk, .int .i64 x47.turn.lo, .int .i64 x47.turn.hi, .slice bf x47.buses.length bl, .slice bg x47.spares.length bm, .int .i64 x47.unit, .int .i64 x47.gap, .int .i64 x47.fr, .int .i64 x47.to_]
abbrev K7c7 (bh : Option Addr) (x55 : Route) (bn : Nat) (bi : Option Addr) (bo : Nat) (bj : Option Addr) (bp : Nat) : List SC := [.slice bh x55.legs.length bn, .int .i64 x55.turn.lo, .int .i64 x55.turn.hi, .slice bi x55.buses.length bo, .slice bj x55.spares.length bp, .int .i64 x55.unit, .int .i64 x55.gap, .int .i64 x55.fr, .int .i64 x55.to_]
abbrev K7e8 (l m o ad : Nat) (at_ : IK .u8) (r_ : Route) (a9 ba : Nat) : Env := [(l, 0), (m, 0), (o, 0), (ad, 0 + (Int.tmod (IntKind.i64.wrap at_.n) ((r_.buses.length : Nat) : Int) : Int).toNat * 1), (a9, ba + (Int.tmod (IntKind.i64.wrap at_.n) ((r_.buses.length : Nat) : Int) : Int).toNat * 3)]
abbrev K7r9 (q : Option Addr) (ao : List Int) (u : Nat) (aq : List Value) (at_ : IK .u8) (r_ : Route) (hold : IK .u8) : List Row := [⟨q, ao.length, u, 3, 1, (aq.take (0 + (Int.tmod (IntKind.i64.wrap at_.n) ((r_.buses.length : Nat) : Int) : Int).toNat * 1 + 0) ++ ([.int .i64 (Int.tmod (IntKind.i64.wrap hold.n) 3)] : List Value) ++ aq.drop (0 + (Int.tmod (IntKind.i64.wrap at_.n) ((r_.buses.length : Nat) : Int) : Int).toNat * 1 + 0 + 1)), ((aq.take (0 + (Int.tmod (IntKind.i64.wrap at_.n) ((r_.buses.length : Nat) : Int) : Int).toNat * 1 + 0) ++ ([.int .i64 (Int.tmod (IntKind.i64.wrap hold.n) 3)] : List Value) ++ aq.drop (0 + (Int.tmod (IntKind.i64.wrap at_.n) ((r_.buses.length : Nat) : Int) : Int).toNat * 1 + 0 + 1)) : List Value).length⟩]
abbrev K7m10 (am : Option Addr) (x58 : (List Int) × Int) (an : Nat) (ae : Option Addr) (x50 : (List Int) × Int) (af : Nat) (at_ : IK .u8) (r_ : Route) : TM := [(tS 13 am x58.1.length an), (tS 11 ae x50.1.length af), (tI 9 (Int.tmod (IntKind.i64.wrap at_.n) ((r_.buses.length : Nat) : Int))), (tP 4 0 0)]
abbrev K7m11 (at_ : IK .u8) (r_ : Route) (hold : IK .u8) : TM := [(tI 9 (Int.tmod (IntKind.i64.wrap at_.n) ((r_.buses.length : Nat) : Int))), (tP 5 1 0), (tP 4 0 0), (3, .one (.c (.int .u8 hold.n)))]
set_option maxRecDepth 100000 in
set_option maxHeartbeats 4000000 in
theorem law_ControlBefore_ok (n : Nat) {h : Heap} {w : World} (hh : Has h w) (r_ : Route) {cs_r_ : List Value} (hx_r_ : rep h r_ cs_r_) (a : Acts) {cs_a : List Value} (hx_a : rep h a cs_a) (at_ : IK .u8) (hold : IK .u8) {r : Bool} (H : law_ControlBefore n r_ a at_ hold = some r) :
  Calls Try.prog 7 #[.agg cs_r_.toArray, .agg cs_a.toArray, .int .u8 at_.n, .int .u8 hold.n] w (Ret (fun h v => v = .bool r) h w) := by
 obtain ⟨_, _, rfl, ⟨x, ab, rfl, ah⟩, ⟨_, _, rfl, ⟨_, _, rfl, rfl, rfl⟩, ⟨_, _, rfl, ⟨p, s, rfl, ag⟩, ⟨_, _, rfl, ⟨z, ac, rfl, ai⟩, ⟨_, _, rfl, rfl, ⟨_, _, rfl, rfl, ⟨_, _, rfl, rfl, rfl⟩⟩⟩⟩⟩⟩⟩ := hx_r_
 obtain ⟨_, _, rfl, ⟨y, aa, rfl, aj⟩, ⟨_, _, rfl, ⟨b, f, rfl, ak⟩, ⟨d, g, rfl, al⟩⟩⟩ := hx_a
 refine enter 101 [.agg (K7c5 x r_ ab p s z ac), .agg (K7c3 y a aa b f d g), .c (.int .u8 at_.n), .c (.int .u8 hold.n)] Try.func7 rfl rfl rfl rfl fun t hk => ?_
 have hm := Mem.begin h w hh
 unfold law_ControlBefore at H
 refine wp_seq (wp_region_from (wpFrom_loud _ rfl (rfl) fun K hK => ?_))
 refine wp_box (.agg (K7c5 x r_ ab p s z ac)) hk hm rfl rfl (by decide) (by kernel_rfl) (by kernel_rfl) (by kernel_rfl) fun l h3 ij (fu : Kn 101 [(l, 0)] [(tP 4 0 0), (tA 0 (K7c5 x r_ ab p s z ac)), (tA 1 (K7c3 y a aa b f d g)), (2, .one (.c (.int .u8 at_.n))), (3, .one (.c (.int .u8 hold.n)))] h3) (hb : Mem ⟨w, h, noX⟩ h [(l, 0)] [⟨(K7c5 x r_ ab p s z ac), some 28⟩] [] ij) => hK _ _ ?_
 refine wpFrom_loud _ rfl (rfl) fun K hK => ?_
 refine wp_box (.agg (K7c3 y a aa b f d g)) fu hb rfl rfl (by decide) (by kernel_rfl) (by kernel_rfl) (by kernel_rfl) fun m h6 ik (f8 : Kn 101 [(l, 0), (m, 0)] [(tP 5 1 0), (tP 4 0 0), (tA 0 (K7c5 x r_ ab p s z ac)), (tA 1 (K7c3 y a aa b f d g)), (2, .one (.c (.int .u8 at_.n))), (3, .one (.c (.int .u8 hold.n)))] h6) (cx : Mem ⟨w, h, noX⟩ h [(l, 0), (m, 0)] [⟨(K7c5 x r_ ab p s z ac), some 28⟩, ⟨(K7c3 y a aa b f d g), some 50⟩] [] ik) => hK _ _ ?_
 refine R_runk 2 1 [5, 4, 2, 3] [(tP 5 1 0), (tP 4 0 0), (2, .one (.c (.int .u8 at_.n))), (3, .one (.c (.int .u8 hold.n)))] f8 cx.plOk (by kernel_rfl) fun jg gf => ?_
 refine wpFrom_end (by decide) (wp_seq (wp_seq ?_))
 obtain ⟨dq, bw, H⟩ := bnd H
 refine wp_mid' (fun a' w' => ∃ (dv : Array Value) (b5 : Heap), a' = ⟨dv, []⟩ ∧ Kn 101 [(l, 0), (m, 0)] [(tP 5 1 0), (tP 4 0 0), (2, .one (.c (.int .u8 at_.n))), (3, .one (.c (.int .u8 hold.n))), (tB 25 dq)] dv ∧ Mem ⟨w, h, noX⟩ b5 [(l, 0), (m, 0)] [⟨(K7c5 x r_ ab p s z ac), some 28⟩, ⟨(K7c3 y a aa b f d g), some 50⟩] [] w' ∧ Heap.le h b5) ?_ ?_
 ·
  refine wp_region_from (R_runk 0 2 [17, 16, 5, 4, 2, 3] [(tA 17 (K7c3 y a aa b f d g)), (tA 16 (K7c5 x r_ ab p s z ac)), (tP 5 1 0), (tP 4 0 0), (2, .one (.c (.int .u8 at_.n))), (3, .one (.c (.int .u8 hold.n)))] gf cx.plOk (by kernel_rfl) fun jl gp => ?_)
  obtain ⟨x18, ex18, bw⟩ := bnd bw
  refine wpFrom_loud _ rfl (rfl) fun K hK => ?_
  refine wp_call [.agg (K7c5 x r_ ab p s z ac), .agg (K7c3 y a aa b f d g)] _ gp cx rfl rfl (by decide) (by rfl) rfl (fun _ _ => by kernel_rfl) (law_ready_ok n cx.has r_ ((rep_pair (rep_slice ah) (rep_pair (rep_pair rep_int rep_int) (rep_pair (rep_slice ag) (rep_pair (rep_slice ai) (rep_pair rep_int (rep_pair rep_int (rep_pair rep_int rep_int))))))) : rep h r_ _) a ((rep_pair (rep_slice aj) (rep_pair (rep_slice ak) (rep_slice al))) : rep h a _) ex18) fun j5 iy kh e2 bd cc => ?_
  replace ah := ah.mono bd
  replace ag := ag.mono bd
  replace ai := ai.mono bd
  replace aj := aj.mono bd
  replace ak := ak.mono bd
  replace al := al.mono bd
  obtain rfl := e2
  refine ⟨.one (.c (.bool x18)), rfl, fun ic (gs : Kn 101 [(l, 0), (m, 0)] [(tB 18 x18), (tA 17 (K7c3 y a aa b f d g)), (tA 16 (K7c5 x r_ ab p s z ac)), (tP 5 1 0), (tP 4 0 0), (2, .one (.c (.int .u8 at_.n))), (3, .one (.c (.int .u8 hold.n)))] ic) => hK _ _ ?_⟩
  refine R_runk 3 2 [20, 5, 4, 2, 3] [(tB 20 (!x18)), (tP 5 1 0), (tP 4 0 0), (2, .one (.c (.int .u8 at_.n))), (3, .one (.c (.int .u8 hold.n)))] gs cc.plOk (by kernel_rfl) fun eo d7 => ?_
  rcases Bool.eq_false_or_eq_true ((!x18)) with b9 | b9
  ·
   rw [b9, cond_true] at bw
   have gu : Kn 101 [(l, 0), (m, 0)] [(tB 20 true), (tP 5 1 0), (tP 4 0 0), (2, .one (.c (.int .u8 at_.n))), (3, .one (.c (.int .u8 hold.n)))] eo := (d7.setB 20 true (by rfl) b9).keep [20, 5, 4, 2, 3] (by rfl)
   refine R_runk 5 5 [25, 5, 4, 2, 3] [(tB 25 true), (tP 5 1 0), (tP 4 0 0), (2, .one (.c (.int .u8 at_.n))), (3, .one (.c (.int .u8 hold.n)))] gu cc.plOk (by kernel_rfl) fun jq gv => ?_
   refine wpFrom_end (by decide) ?_
   obtain rfl := Option.some.inj bw
   exact Exists.intro _ ⟨_, rfl, (gv.keep [5, 4, 2, 3, 25] (by rfl)), cc, bd⟩
  ·
   rw [b9, cond_false] at bw
   have gw : Kn 101 [(l, 0), (m, 0)] [(tB 20 false), (tP 5 1 0), (tP 4 0 0), (2, .one (.c (.int .u8 at_.n))), (3, .one (.c (.int .u8 hold.n)))] eo := (d7.setB 20 false (by rfl) b9).keep [20, 5, 4, 2, 3] (by rfl)
   refine R_runk 5 5 [25, 5, 4, 2, 3] [(tB 25 (((r_.buses.length : Nat) : Int) == 0)), (tP 5 1 0), (tP 4 0 0), (2, .one (.c (.int .u8 at_.n))), (3, .one (.c (.int .u8 hold.n)))] gw cc.plOk (by kernel_rfl) fun jr gx => ?_
   refine wpFrom_end (by decide) ?_
   obtain rfl := Option.some.inj bw
   exact Exists.intro _ ⟨_, rfl, (gx.keep [5, 4, 2, 3, 25] (by rfl)), cc, bd⟩
 ·
  rintro _ ki ⟨dv, b5, rfl, c9, b3, bz⟩
  replace ah := ah.mono bz
  replace ag := ag.mono bz
  replace ai := ai.mono bz
  replace aj := aj.mono bz
  replace ak := ak.mono bz
  replace al := al.mono bz
  refine wp_cond_sv (dq) c9 (by kernel_rfl) (fun c5 => ?_) (fun c5 => ?_)
  ·
   rw [c5, cond_true] at H
   refine wp_seq (wp_region_from ?_)
   obtain ⟨x26, ex26, H⟩ := bnd H
   refine wpFrom_loud _ rfl (rfl) fun K hK => ?_
   refine wp_call [] _ c9 b3 rfl rfl (by decide) (by rfl) rfl (fun _ _ => by kernel_rfl) (law_awake_ok n b3.has  ex26) fun j6 iz kj e3 b1 ec => ?_
   replace ah := ah.mono b1
   replace ag := ag.mono b1
   replace ai := ai.mono b1
   replace aj := aj.mono b1
   replace ak := ak.mono b1
   replace al := al.mono b1
   obtain rfl := e3
   refine ⟨.one (.c (.bool x26)), rfl, fun ie (gy : Kn 101 [(l, 0), (m, 0)] [(tB 26 x26), (tP 5 1 0), (tP 4 0 0), (2, .one (.c (.int .u8 at_.n))), (3, .one (.c (.int .u8 hold.n))), (tB 25 dq)] ie) => hK _ _ ?_⟩
   refine R_runk 1 1 [8] [(tB 8 x26)] gy ec.plOk (by kernel_rfl) fun js gz => ?_
   refine wpFrom_end (by decide) (wp_ret ?_)
   obtain rfl := Option.some.inj H
   exact ret_ok (.one (.c (.bool x26))) gz ec (by kernel_rfl) rfl
  ·
   rw [c5, cond_false] at H
   refine wp_skip (wp_seq (wp_region_from (R_runk 0 5 [31, 28, 5, 4, 3] [(tI 31 ((r_.buses.length : Nat) : Int)), (tI 28 (IntKind.i64.wrap at_.n)), (tP 5 1 0), (tP 4 0 0), (3, .one (.c (.int .u8 hold.n)))] c9 b3.plOk (by kernel_rfl) fun jt g0 => ?_)))
   obtain ⟨x32, ex32, H⟩ := bnd H
   refine R_rem 5 g0 rfl rfl (rfl) rfl (by decide) (by rfl) (by rfl) (nz_some ex32) fun ig (g1 : Kn 101 [(l, 0), (m, 0)] [(tI 32 (Int.tmod (IntKind.i64.wrap at_.n) ((r_.buses.length : Nat) : Int))), (tI 31 ((r_.buses.length : Nat) : Int)), (tI 28 (IntKind.i64.wrap at_.n)), (tP 5 1 0), (tP 4 0 0), (3, .one (.c (.int .u8 hold.n)))] ig) => ?_
   refine R_runk 6 1 [9, 5, 4, 3] (K7m11 at_ r_ hold) g1 b3.plOk (by kernel_rfl) fun ju g2 => ?_
   refine wpFrom_end (by decide) (wp_seq (wp_region_from (R_runk 0 1 [33, 9, 5, 4, 3] ((tA 33 (K7c3 y a aa b f d g)) :: (K7m11 at_ r_ hold)) g2 b3.plOk (by kernel_rfl) fun jv g3 => ?_)))
   refine wpFrom_loud _ rfl (rfl) fun K hK => ?_
   refine wp_alloc [.slice none 0 0, .slice none 0 0, .slice none 0 0] g3 b3 rfl rfl (by decide) (by kernel_rfl) (by kernel_rfl) (by kernel_rfl) fun o ep il (g4 : Kn 101 [(l, 0), (m, 0), (o, 0)] ((tP 10 2 0) :: (tA 33 (K7c3 y a aa b f d g)) :: (K7m11 at_ r_ hold)) ep) (hc : Mem ⟨w, h, noX⟩ b5 [(l, 0), (m, 0), (o, 0)] [⟨(K7c5 x r_ ab p s z ac), some 28⟩, ⟨(K7c3 y a aa b f d g), some 50⟩, ⟨[.slice none 0 0, .slice none 0 0, .slice none 0 0], some 50⟩] [] il) => hK _ _ ?_
   refine wpFrom_loud _ rfl (rfl) fun K hK => ?_
   refine wp_store 2 0 (.agg (K7c3 y a aa b f d g)) (K7c3 y a aa b f d g) g4 hc rfl rfl (by rfl) (by rfl) (by rfl) (by kernel_rfl) (by kernel_rfl) (by rfl) fun im g5 (dh : Mem ⟨w, h, noX⟩ b5 [(l, 0), (m, 0), (o, 0)] [⟨(K7c5 x r_ ab p s z ac), some 28⟩, ⟨(K7c3 y a aa b f d g), some 50⟩, ⟨(K7c3 y a aa b f d g), some 50⟩] [] im) => hK _ _ ?_
   have g6 : Kn 101 [(l, 0), (m, 0), (o, 0)] ((tP 10 2 0) :: (K7m11 at_ r_ hold)) ep := g5.keep [10, 9, 5, 4, 3] (by rfl)
   refine wpFrom_end (by decide) (wp_seq (wp_region_from (R_runk 0 2 [35, 10, 9, 5, 4, 3] ((tS 35 y a.holds.length aa) :: (tP 10 2 0) :: (K7m11 at_ r_ hold)) g6 dh.plOk (by kernel_rfl) fun jw g7 => ?_)))
   obtain ⟨x36, ex36, H⟩ := bnd H
   refine wpFrom_loud _ rfl (rfl) fun K hK => ?_
   refine wp_callO [.c (.slice y a.holds.length aa)] _ g7 dh rfl rfl (by decide) (by rfl) rfl (fun _ _ => by kernel_rfl) (law_list_own n dh.has a.holds aj ex36) fun j7 bb io i3 e4 b2 cy => ?_
   replace ah := ah.mono b2
   replace ag := ag.mono b2
   replace ai := ai.mono b2
   replace aj := aj.mono b2
   replace ak := ak.mono b2
   replace al := al.mono b2
   obtain ⟨q, u, aq, rfl, rfl, cu⟩ := e4
   replace cy : Mem ⟨w, h, noX⟩ bb [(l, 0), (m, 0), (o, 0)] [⟨(K7c5 x r_ ab p s z ac), some 28⟩, ⟨(K7c3 y a aa b f d g), some 50⟩, ⟨(K7c3 y a aa b f d g), some 50⟩] [⟨q, x36.length, u, 3, 1, aq, 0⟩] io := cy
   refine ⟨.one (.c (.slice q x36.length u)), rfl, fun ih (g8 : Kn 101 [(l, 0), (m, 0), (o, 0)] ((tS 36 q x36.length u) :: (tS 35 y a.holds.length aa) :: (tP 10 2 0) :: (K7m11 at_ r_ hold)) ih) => hK _ _ ?_⟩
   refine R_runk 3 1 [37, 36, 10, 9, 5, 4, 3] ((tP 37 2 0) :: (tS 36 q x36.length u) :: (tP 10 2 0) :: (K7m11 at_ r_ hold)) g8 cy.plOk (by kernel_rfl) fun hy fe => ?_
   refine wpFrom_loud _ rfl (rfl) fun K hK => ?_
   refine wp_store 2 0 (.c (.slice q x36.length u)) [.slice q x36.length u, .slice b a.turns.length f, .slice d a.spares.length g] fe cy rfl rfl (by rfl) (by rfl) (by rfl) (by kernel_rfl) (by kernel_rfl) (by rfl) fun er ff (db : Mem ⟨w, h, noX⟩ bb [(l, 0), (m, 0), (o, 0)] [⟨(K7c5 x r_ ab p s z ac), some 28⟩, ⟨(K7c3 y a aa b f d g), some 50⟩, ⟨[.slice q x36.length u, .slice b a.turns.length f, .slice d a.spares.length g], some 50⟩] [⟨q, x36.length, u, 3, 1, aq, 0⟩] er) => hK _ _ ?_
   have fg : Kn 101 [(l, 0), (m, 0), (o, 0)] ((tP 10 2 0) :: (K7m11 at_ r_ hold)) hy := ff.keep [10, 9, 5, 4, 3] (by rfl)
   refine wpFrom_end (by decide) (wp_seq (wp_region_from (R_runk 0 6 [43, 40, 39, 10, 9, 5, 4] [(tI 43 (Int.tmod (IntKind.i64.wrap hold.n) 3)), (tI 40 (Int.tmod (IntKind.i64.wrap at_.n) ((r_.buses.length : Nat) : Int))), (tS 39 q x36.length u), (tP 10 2 0), (tI 9 (Int.tmod (IntKind.i64.wrap at_.n) ((r_.buses.length : Nat) : Int))), (tP 5 1 0), (tP 4 0 0)] fg db.plOk (by kernel_rfl) fun i4 fh => ?_)))
   obtain ⟨x44, ex44, H⟩ := bnd H
   obtain ⟨ee, ef, ht⟩ := idx_some ex44
   have da := lt_of_idx ee ef
   obtain ⟨ip, hp, fa⟩ := cells_get (sz := 1) rfl cu ht
   obtain rfl := hp
   obtain ⟨ad, d2⟩ := row_addr db (i := 0) rfl (b0 := 0 + (Int.tmod (IntKind.i64.wrap at_.n) ((r_.buses.length : Nat) : Int) : Int).toNat * 1) (Nat.lt_of_lt_of_le (Nat.lt_add_of_pos_right (by decide)) (cells_fit (sz := 1) rfl cu da))
   have g9 : Mem ⟨w, h, noX⟩ bb (K7e4 l m o ad at_ r_) [⟨(K7c5 x r_ ab p s z ac), some 28⟩, ⟨(K7c3 y a aa b f d g), some 50⟩, ⟨[.slice q x36.length u, .slice b a.turns.length f, .slice d a.spares.length g], some 50⟩, ⟨[], none⟩] [⟨q, x36.length, u, 3, 1, aq, 0⟩] er := db.addPlc (cs := []) (fun j c hj => by simp at hj) rfl (by kernel_rfl) (by kernel_rfl)
   have i0 : ∀ (e : Env) k c, ([.int .i64 x44] : List SC)[k]? = some c → (aq)[0 + (Int.tmod (IntKind.i64.wrap at_.n) ((r_.buses.length : Nat) : Int) : Int).toNat * 1 + k]? = some (c.den e) := fun e k c hk => fa k _ (map_get hk)
   refine R_index 6 (Int.tmod (IntKind.i64.wrap at_.n) ((r_.buses.length : Nat) : Int)) rfl rfl (rfl) rfl (by decide) fh (by rfl) (by rfl) (by rfl) d2 (by rfl) ee ef (by kernel_rfl) fun dr (fi : Kn 101 (K7e4 l m o ad at_ r_) [(tP 44 3 0), (tI 43 (Int.tmod (IntKind.i64.wrap hold.n) 3)), (tI 40 (Int.tmod (IntKind.i64.wrap at_.n) ((r_.buses.length : Nat) : Int))), (tS 39 q x36.length u), (tP 10 2 0), (tI 9 (Int.tmod (IntKind.i64.wrap at_.n) ((r_.buses.length : Nat) : Int))), (tP 5 1 0), (tP 4 0 0)] dr) => ?_
   obtain ⟨ao, et, H⟩ := bnd H
   obtain ⟨i1, i2, eg⟩ := upd_some et
   refine wpFrom_loud _ rfl (rfl) fun K hK => ?_
   refine wp_storeRow 0 3 0 (0 + (Int.tmod (IntKind.i64.wrap at_.n) ((r_.buses.length : Nat) : Int) : Int).toNat * 1) (.c (.int .i64 (Int.tmod (IntKind.i64.wrap hold.n) 3))) fi g9 rfl rfl (by rfl) (by rfl) rfl rfl d2 rfl (by kernel_rfl) (cells_fit (sz := 1) rfl cu da) fun es fj (ha : Mem ⟨w, h, noX⟩ bb (K7e4 l m o ad at_ r_) [⟨(K7c5 x r_ ab p s z ac), some 28⟩, ⟨(K7c3 y a aa b f d g), some 50⟩, ⟨[.slice q x36.length u, .slice b a.turns.length f, .slice d a.spares.length g], some 50⟩, ⟨[], none⟩] [⟨q, x36.length, u, 3, 1, (aq.take (0 + (Int.tmod (IntKind.i64.wrap at_.n) ((r_.buses.length : Nat) : Int) : Int).toNat * 1 + 0) ++ ([.int .i64 (Int.tmod (IntKind.i64.wrap hold.n) 3)] : List Value) ++ aq.drop (0 + (Int.tmod (IntKind.i64.wrap at_.n) ((r_.buses.length : Nat) : Int) : Int).toNat * 1 + 0 + 1)), 0⟩] es) => ?_
   have ap : Cells bb ao (aq.take (0 + (Int.tmod (IntKind.i64.wrap at_.n) ((r_.buses.length : Nat) : Int) : Int).toNat * 1 + 0) ++ ([.int .i64 (Int.tmod (IntKind.i64.wrap hold.n) 3)] : List Value) ++ aq.drop (0 + (Int.tmod (IntKind.i64.wrap at_.n) ((r_.buses.length : Nat) : Int) : Int).toNat * 1 + 0 + 1)) := by rw [eg]; exact cells_set (sz := 1) rfl cu da (rep_int : rep bb (Int.tmod (IntKind.i64.wrap hold.n) 3 : Int) _)
   have ed : x36.length = ao.length := by rw [eg]; simp
   have fk : Kn 101 [(l, 0), (m, 0), (o, 0), (ad, 0 + (Int.tmod (IntKind.i64.wrap at_.n) ((r_.buses.length : Nat) : Int) : Int).toNat * 1)] [(44, .one (.c (.ptr 3 0))), (43, .one (.c (.int .i64 (Int.tmod (IntKind.i64.wrap hold.n) 3)))), (40, .one (.c (.int .i64 (Int.tmod (IntKind.i64.wrap at_.n) ((r_.buses.length : Nat) : Int))))), (39, .one (.c (.slice q ao.length u))), (10, .one (.c (.ptr 2 0))), (9, .one (.c (.int .i64 (Int.tmod (IntKind.i64.wrap at_.n) ((r_.buses.length : Nat) : Int))))), (5, .one (.c (.ptr 1 0))), (4, .one (.c (.ptr 0 0)))] dr := by rw [← ed]; exact fj
   have ca : Mem ⟨w, h, noX⟩ bb [(l, 0), (m, 0), (o, 0), (ad, 0 + (Int.tmod (IntKind.i64.wrap at_.n) ((r_.buses.length : Nat) : Int) : Int).toNat * 1)] [⟨[.slice x r_.legs.length ab, .int .i64 r_.turn.lo, .int .i64 r_.turn.hi, .slice p r_.buses.length s, .slice z r_.spares.length ac, .int .i64 r_.unit, .int .i64 r_.gap, .int .i64 r_.fr, .int .i64 r_.to_], some 28⟩, ⟨[.slice y a.holds.length aa, .slice b a.turns.length f, .slice d a.spares.length g], some 50⟩, ⟨[.slice q ao.length u, .slice b a.turns.length f, .slice d a.spares.length g], some 50⟩, ⟨[], none⟩] [⟨q, ao.length, u, 3, 1, (aq.take (0 + (Int.tmod (IntKind.i64.wrap at_.n) ((r_.buses.length : Nat) : Int) : Int).toNat * 1 + 0) ++ ([.int .i64 (Int.tmod (IntKind.i64.wrap hold.n) 3)] : List Value) ++ aq.drop (0 + (Int.tmod (IntKind.i64.wrap at_.n) ((r_.buses.length : Nat) : Int) : Int).toNat * 1 + 0 + 1)), 0⟩] es := by rw [← ed]; exact ha
   refine hK _ _ ?_
   have fl : Kn 101 (K7e4 l m o ad at_ r_) [(tP 10 2 0), (tI 9 (Int.tmod (IntKind.i64.wrap at_.n) ((r_.buses.length : Nat) : Int))), (tP 5 1 0), (tP 4 0 0)] dr := fk.keep [10, 9, 5, 4] (by rfl)
   refine wpFrom_end (by decide) (wp_seq (wp_region_G (by kernel_rfl) ?_))
   replace ca := ca.drew
   refine wpG_of_D [] (K7e4 l m o ad at_ r_) [⟨(K7c5 x r_ ab p s z ac), some 28⟩, ⟨(K7c3 y a aa b f d g), some 50⟩, ⟨(K7c2 q ao u b a f d g), some 50⟩, ⟨[], none⟩] ?_
   refine D_run [0, 2] [2, 0] [48, 46, 10, 9, 4] [(tA 48 (K7c3 y a aa b f d g)), (tA 46 (K7c5 x r_ ab p s z ac)), (tP 10 2 0), (tI 9 (Int.tmod (IntKind.i64.wrap at_.n) ((r_.buses.length : Nat) : Int))), (tP 4 0 0)] (fun _ _ _ _ _ h => h) fl ca.plOk (by kernel_rfl) (by rfl) (by kernel_rfl) fun i5 fm => ?_
   obtain ⟨x47, ex47, H⟩ := bnd H
   refine D_loud 1 rfl (by kernel_rfl) (by decide) (rfl) fun K hK => ?_
   refine wp_call [.agg (K7c5 x r_ ab p s z ac)] _ fm ca rfl rfl (by decide) (by rfl) rfl (fun _ _ => by kernel_rfl) (law_Route_ok n ca.has r_ ((rep_pair (rep_slice ah) (rep_pair (rep_pair rep_int rep_int) (rep_pair (rep_slice ag) (rep_pair (rep_slice ai) (rep_pair rep_int (rep_pair rep_int (rep_pair rep_int rep_int))))))) : rep bb r_ _) ex47) fun jx e5 j8 eu bq dc => ?_
   replace ah := ah.mono bq
   replace ag := ag.mono bq
   replace ai := ai.mono bq
   replace aj := aj.mono bq
   replace ak := ak.mono bq
   replace al := al.mono bq
   replace ap := ap.mono bq
   obtain ⟨_, rfl, ⟨_, _, rfl, ⟨be, bk, rfl, cd⟩, ⟨_, _, rfl, ⟨_, _, rfl, rfl, rfl⟩, ⟨_, _, rfl, ⟨bf, bl, rfl, ce⟩, ⟨_, _, rfl, ⟨bg, bm, rfl, cf⟩, ⟨_, _, rfl, rfl, ⟨_, _, rfl, rfl, ⟨_, _, rfl, rfl, rfl⟩⟩⟩⟩⟩⟩⟩⟩ := eu
   refine ⟨.one (.agg (K7c6 be x47 bk bf bl bg bm)), rfl, fun hz (fn : Kn 101 (K7e4 l m o ad at_ r_) [(tA 47 (K7c6 be x47 bk bf bl bg bm)), (tA 48 (K7c3 y a aa b f d g)), (tA 46 (K7c5 x r_ ab p s z ac)), (tP 10 2 0), (tI 9 (Int.tmod (IntKind.i64.wrap at_.n) ((r_.buses.length : Nat) : Int))), (tP 4 0 0)] hz) => hK _ _ dc.plOk ?_⟩
   obtain ⟨x49, ex49, H⟩ := bnd H
   refine D_loud 3 rfl (by kernel_rfl) (by decide) (rfl) fun K hK => ?_
   refine wp_call [.agg (K7c3 y a aa b f d g)] _ fn dc rfl rfl (by decide) (by rfl) rfl (fun _ _ => by kernel_rfl) (law_Acts_ok n dc.has a ((rep_pair (rep_slice aj) (rep_pair (rep_slice ak) (rep_slice al))) : rep e5 a _) ex49) fun jy dz j9 ev a5 dd => ?_
   replace ah := ah.mono a5
   replace ag := ag.mono a5
   replace ai := ai.mono a5
   replace aj := aj.mono a5
   replace ak := ak.mono a5
   replace al := al.mono a5
   replace cd := cd.mono a5
   replace ce := ce.mono a5
   replace cf := cf.mono a5
   replace ap := ap.mono a5
   obtain ⟨_, rfl, ⟨_, _, rfl, ⟨cg, cn, rfl, di⟩, ⟨_, _, rfl, ⟨ch, co, rfl, dj⟩, ⟨ci, cp, rfl, dk⟩⟩⟩⟩ := ev
   refine ⟨.one (.agg [.slice cg x49.holds.length cn, .slice ch x49.turns.length co, .slice ci x49.spares.length cp]), rfl, fun h0 (fo : Kn 101 (K7e4 l m o ad at_ r_) [(tA 49 [.slice cg x49.holds.length cn, .slice ch x49.turns.length co, .slice ci x49.spares.length cp]), (tA 47 (K7c6 be x47 bk bf bl bg bm)), (tA 48 (K7c3 y a aa b f d g)), (tA 46 (K7c5 x r_ ab p s z ac)), (tP 10 2 0), (tI 9 (Int.tmod (IntKind.i64.wrap at_.n) ((r_.buses.length : Nat) : Int))), (tP 4 0 0)] h0) => hK _ _ dd.plOk ?_⟩
   obtain ⟨x50, ex50, H⟩ := bnd H
   refine D_loud 4 rfl (by kernel_rfl) (by decide) (rfl) fun K hK => ?_
   refine wp_call [.agg (K7c6 be x47 bk bf bl bg bm), .agg [.slice cg x49.holds.length cn, .slice ch x49.turns.length co, .slice ci x49.spares.length cp]] _ fo dd rfl rfl (by decide) (by rfl) rfl (fun _ _ => by kernel_rfl) (control_Worst_ok n dd.has x47 ((rep_pair (rep_slice cd) (rep_pair (rep_pair rep_int rep_int) (rep_pair (rep_slice ce) (rep_pair (rep_slice cf) (rep_pair rep_int (rep_pair rep_int (rep_pair rep_int rep_int))))))) : rep dz x47 _) x49 ((rep_pair (rep_slice di) (rep_pair (rep_slice dj) (rep_slice dk))) : rep dz x49 _) ex50) fun jz e6 ka ew ay br => ?_
   replace ah := ah.mono ay
   replace ag := ag.mono ay
   replace ai := ai.mono ay
   replace aj := aj.mono ay
   replace ak := ak.mono ay
   replace al := al.mono ay
   replace cd := cd.mono ay
   replace ce := ce.mono ay
   replace cf := cf.mono ay
   replace di := di.mono ay
   replace dj := dj.mono ay
   replace dk := dk.mono ay
   replace ap := ap.mono ay
   obtain ⟨_, _, rfl, ⟨ae, af, rfl, ar⟩, rfl⟩ := ew
   refine ⟨.tup [.c (.slice ae x50.1.length af), .c (.int .i64 x50.2)], rfl, fun h1 (fp : Kn 101 (K7e4 l m o ad at_ r_) [(50, .tup [.c (.slice ae x50.1.length af), .c (.int .i64 x50.2)]), (tA 49 [.slice cg x49.holds.length cn, .slice ch x49.turns.length co, .slice ci x49.spares.length cp]), (tA 47 (K7c6 be x47 bk bf bl bg bm)), (tA 48 (K7c3 y a aa b f d g)), (tA 46 (K7c5 x r_ ab p s z ac)), (tP 10 2 0), (tI 9 (Int.tmod (IntKind.i64.wrap at_.n) ((r_.buses.length : Nat) : Int))), (tP 4 0 0)] h1) => hK _ _ br.plOk ?_⟩
   refine D_run [5, 6, 7, 8, 9] [9, 8, 7, 6, 5, 4, 3, 1, 2, 0] [12, 11, 10, 9, 4] [(tI 12 x50.2), (tS 11 ae x50.1.length af), (tP 10 2 0), (tI 9 (Int.tmod (IntKind.i64.wrap at_.n) ((r_.buses.length : Nat) : Int))), (tP 4 0 0)] (fun _ _ _ _ _ h => h) fp br.plOk (by kernel_rfl) (by rfl) (by kernel_rfl) fun i6 fq => ?_
   refine wpD_end (by kernel_rfl) (wp_seq (wp_region_G (by kernel_rfl) ?_))
   replace br := br.drew
   refine wpG_of_D [] (K7e4 l m o ad at_ r_) [⟨(K7c5 x r_ ab p s z ac), some 28⟩, ⟨(K7c3 y a aa b f d g), some 50⟩, ⟨(K7c2 q ao u b a f d g), some 50⟩, ⟨[], none⟩] ?_
   refine D_run [0, 2] [2, 0] [56, 54, 12, 11, 9, 4] [(tA 56 (K7c2 q ao u b a f d g)), (tA 54 (K7c5 x r_ ab p s z ac)), (tI 12 x50.2), (tS 11 ae x50.1.length af), (tI 9 (Int.tmod (IntKind.i64.wrap at_.n) ((r_.buses.length : Nat) : Int))), (tP 4 0 0)] (fun _ _ _ _ _ h => h) fq br.plOk (by kernel_rfl) (by rfl) (by kernel_rfl) fun i7 fs => ?_
   obtain ⟨x55, ex55, H⟩ := bnd H
   refine D_loud 1 rfl (by kernel_rfl) (by decide) (rfl) fun K hK => ?_
   refine wp_call [.agg (K7c5 x r_ ab p s z ac)] _ fs br rfl rfl (by decide) (by rfl) rfl (fun _ _ => by kernel_rfl) (law_Route_ok n br.has r_ ((rep_pair (rep_slice ah) (rep_pair (rep_pair rep_int rep_int) (rep_pair (rep_slice ag) (rep_pair (rep_slice ai) (rep_pair rep_int (rep_pair rep_int (rep_pair rep_int rep_int))))))) : rep e6 r_ _) ex55) fun j0 iv ii ex bc de => ?_
   replace ah := ah.mono bc
   replace ag := ag.mono bc
   replace ai := ai.mono bc
   replace aj := aj.mono bc
   replace ak := ak.mono bc
   replace al := al.mono bc
   replace ar := ar.mono bc
   replace ap := ap.mono bc
   obtain ⟨_, rfl, ⟨_, _, rfl, ⟨bh, bn, rfl, bt⟩, ⟨_, _, rfl, ⟨_, _, rfl, rfl, rfl⟩, ⟨_, _, rfl, ⟨bi, bo, rfl, bu⟩, ⟨_, _, rfl, ⟨bj, bp, rfl, bv⟩, ⟨_, _, rfl, rfl, ⟨_, _, rfl, rfl, ⟨_, _, rfl, rfl, rfl⟩⟩⟩⟩⟩⟩⟩⟩ := ex
   refine ⟨.one (.agg (K7c7 bh x55 bn bi bo bj bp)), rfl, fun h2 (ft : Kn 101 (K7e4 l m o ad at_ r_) [(tA 55 (K7c7 bh x55 bn bi bo bj bp)), (tA 56 (K7c2 q ao u b a f d g)), (tA 54 (K7c5 x r_ ab p s z ac)), (tI 12 x50.2), (tS 11 ae x50.1.length af), (tI 9 (Int.tmod (IntKind.i64.wrap at_.n) ((r_.buses.length : Nat) : Int))), (tP 4 0 0)] h2) => hK _ _ de.plOk ?_⟩
   obtain ⟨c0, a2, ho, cv⟩ := de.settle (i := 0) rfl
   replace ah := ah.mono a2
   replace ag := ag.mono a2
   replace ai := ai.mono a2
   replace aj := aj.mono a2
   replace ak := ak.mono a2
   replace al := al.mono a2
   replace ar := ar.mono a2
   replace bt := bt.mono a2
   replace bu := bu.mono a2
   replace bv := bv.mono a2
   replace ap := ap.mono a2
   replace cv : Mem ⟨w, h, noX⟩ c0 (K7e4 l m o ad at_ r_) [⟨(K7c5 x r_ ab p s z ac), some 28⟩, ⟨(K7c3 y a aa b f d g), some 50⟩, ⟨(K7c2 q ao u b a f d g), some 50⟩, ⟨[], none⟩] (K7r9 q ao u aq at_ r_ hold) ii := cv
   have aw : RepS c0 q u ao := ⟨_, ap, ho, de.rowCap (i := 0) rfl⟩
   obtain ⟨x57, ex57, H⟩ := bnd H
   refine D_loud 3 rfl (by kernel_rfl) (by decide) (rfl) fun K hK => ?_
   refine wp_call [.agg (K7c2 q ao u b a f d g)] _ ft cv rfl rfl (by decide) (by rfl) rfl (fun _ _ => by kernel_rfl) (law_Acts_ok n cv.has (Acts.mk ao a.turns a.spares) ((rep_pair (rep_slice aw) (rep_pair (rep_slice ak) (rep_slice al))) : rep c0 (Acts.mk ao a.turns a.spares) _) ex57) fun j1 d0 kb ey a0 df => ?_
   replace ah := ah.mono a0
   replace ag := ag.mono a0
   replace ai := ai.mono a0
   replace aj := aj.mono a0
   replace ak := ak.mono a0
   replace al := al.mono a0
   replace ar := ar.mono a0
   replace bt := bt.mono a0
   replace bu := bu.mono a0
   replace bv := bv.mono a0
   replace aw := aw.mono a0
   replace ap := ap.mono a0
   obtain ⟨_, rfl, ⟨_, _, rfl, ⟨cj, cq, rfl, dl⟩, ⟨_, _, rfl, ⟨ck, cr, rfl, dm⟩, ⟨cl, ct, rfl, dn⟩⟩⟩⟩ := ey
   refine ⟨.one (.agg [.slice cj x57.holds.length cq, .slice ck x57.turns.length cr, .slice cl x57.spares.length ct]), rfl, fun h4 (fv : Kn 101 (K7e4 l m o ad at_ r_) [(tA 57 [.slice cj x57.holds.length cq, .slice ck x57.turns.length cr, .slice cl x57.spares.length ct]), (tA 55 (K7c7 bh x55 bn bi bo bj bp)), (tA 56 (K7c2 q ao u b a f d g)), (tA 54 (K7c5 x r_ ab p s z ac)), (tI 12 x50.2), (tS 11 ae x50.1.length af), (tI 9 (Int.tmod (IntKind.i64.wrap at_.n) ((r_.buses.length : Nat) : Int))), (tP 4 0 0)] h4) => hK _ _ df.plOk ?_⟩
   obtain ⟨x58, ex58, H⟩ := bnd H
   refine D_loud 4 rfl (by kernel_rfl) (by decide) (rfl) fun K hK => ?_
   refine wp_call [.agg (K7c7 bh x55 bn bi bo bj bp), .agg [.slice cj x57.holds.length cq, .slice ck x57.turns.length cr, .slice cl x57.spares.length ct]] _ fv df rfl rfl (by decide) (by rfl) rfl (fun _ _ => by kernel_rfl) (control_Worst_ok n df.has x55 ((rep_pair (rep_slice bt) (rep_pair (rep_pair rep_int rep_int) (rep_pair (rep_slice bu) (rep_pair (rep_slice bv) (rep_pair rep_int (rep_pair rep_int (rep_pair rep_int rep_int))))))) : rep d0 x55 _) x57 ((rep_pair (rep_slice dl) (rep_pair (rep_slice dm) (rep_slice dn))) : rep d0 x57 _) ex58) fun j2 d1 kc ez av ax => ?_
   replace ah := ah.mono av
   replace ag := ag.mono av
   replace ai := ai.mono av
   replace aj := aj.mono av
   replace ak := ak.mono av
   replace al := al.mono av
   replace ar := ar.mono av
   replace bt := bt.mono av
   replace bu := bu.mono av
   replace bv := bv.mono av
   replace aw := aw.mono av
   replace dl := dl.mono av
   replace dm := dm.mono av
   replace dn := dn.mono av
   replace ap := ap.mono av
   obtain ⟨_, _, rfl, ⟨am, an, rfl, a4⟩, rfl⟩ := ez
   refine ⟨.tup [.c (.slice am x58.1.length an), .c (.int .i64 x58.2)], rfl, fun h5 (fw : Kn 101 (K7e4 l m o ad at_ r_) [(58, .tup [.c (.slice am x58.1.length an), .c (.int .i64 x58.2)]), (tA 57 [.slice cj x57.holds.length cq, .slice ck x57.turns.length cr, .slice cl x57.spares.length ct]), (tA 55 (K7c7 bh x55 bn bi bo bj bp)), (tA 56 (K7c2 q ao u b a f d g)), (tA 54 (K7c5 x r_ ab p s z ac)), (tI 12 x50.2), (tS 11 ae x50.1.length af), (tI 9 (Int.tmod (IntKind.i64.wrap at_.n) ((r_.buses.length : Nat) : Int))), (tP 4 0 0)] h5) => hK _ _ ax.plOk ?_⟩
   refine D_run [5, 6, 7, 8, 9] [9, 8, 7, 6, 5, 4, 3, 1, 2, 0] [14, 13, 12, 11, 9, 4] [(tI 14 x58.2), (tS 13 am x58.1.length an), (tI 12 x50.2), (tS 11 ae x50.1.length af), (tI 9 (Int.tmod (IntKind.i64.wrap at_.n) ((r_.buses.length : Nat) : Int))), (tP 4 0 0)] (fun _ _ _ _ _ h => h) fw ax.plOk (by kernel_rfl) (by rfl) (by kernel_rfl) fun i8 fx => ?_
   refine wpD_end (by kernel_rfl) (wp_seq (wp_seq ?_))
   obtain ⟨eh, az, H⟩ := bnd H
   refine wp_mid' (fun a' w' => ∃ (ds : Array Value) (b4 : Heap), a' = ⟨ds, []⟩ ∧ Kn 101 (K7e4 l m o ad at_ r_) [(tS 13 am x58.1.length an), (tS 11 ae x50.1.length af), (tI 9 (Int.tmod (IntKind.i64.wrap at_.n) ((r_.buses.length : Nat) : Int))), (tP 4 0 0), (tB 80 eh)] ds ∧ Mem ⟨w, h, noX⟩ b4 (K7e4 l m o ad at_ r_) [⟨(K7c5 x r_ ab p s z ac), some 28⟩, ⟨(K7c3 y a aa b f d g), some 50⟩, ⟨(K7c2 q ao u b a f d g), some 50⟩, ⟨[], none⟩] (K7r9 q ao u aq at_ r_ hold) w' ∧ Heap.le d1 b4) ?_ ?_
   ·
    refine wp_region_from (R_runk 0 3 [63, 14, 13, 11, 9, 4] ((tB 63 (x50.2 != 0)) :: (tI 14 x58.2) :: (K7m10 am x58 an ae x50 af at_ r_)) fx ax.plOk (by kernel_rfl) fun el d3 => ?_)
    rcases Bool.eq_false_or_eq_true ((x50.2 != 0)) with b6 | b6
    ·
     rw [b6, cond_true] at az
     have fy : Kn 101 (K7e4 l m o ad at_ r_) ((tB 63 true) :: (tI 14 x58.2) :: (K7m10 am x58 an ae x50 af at_ r_)) el := (d3.setB 63 true (by rfl) b6).keep [63, 14, 13, 11, 9, 4] (by rfl)
     refine R_runk 3 17 [80, 13, 11, 9, 4] ((tB 80 true) :: (K7m10 am x58 an ae x50 af at_ r_)) fy ax.plOk (by kernel_rfl) fun i9 fz => ?_
     refine wpFrom_end (by decide) ?_
     obtain rfl := Option.some.inj az
     exact Exists.intro _ ⟨_, rfl, (fz.keep [13, 11, 9, 4, 80] (by rfl)), ax, (Heap.le_refl _)⟩
    ·
     rw [b6, cond_false] at az
     have f0 : Kn 101 (K7e4 l m o ad at_ r_) ((tB 63 false) :: (tI 14 x58.2) :: (K7m10 am x58 an ae x50 af at_ r_)) el := (d3.setB 63 false (by rfl) b6).keep [63, 14, 13, 11, 9, 4] (by rfl)
     refine R_runk 3 4 [67, 13, 11, 9, 4] ((tB 67 (x58.2 != 0)) :: (K7m10 am x58 an ae x50 af at_ r_)) f0 ax.plOk (by kernel_rfl) fun em d4 => ?_
     rcases Bool.eq_false_or_eq_true ((x58.2 != 0)) with b7 | b7
     ·
      rw [b7, cond_true] at az
      have f1 : Kn 101 (K7e4 l m o ad at_ r_) ((tB 67 true) :: (K7m10 am x58 an ae x50 af at_ r_)) em := (d4.setB 67 true (by rfl) b7).keep [67, 13, 11, 9, 4] (by rfl)
      refine R_runk 7 13 [80, 13, 11, 9, 4] ((tB 80 true) :: (K7m10 am x58 an ae x50 af at_ r_)) f1 ax.plOk (by kernel_rfl) fun ja f2 => ?_
      refine wpFrom_end (by decide) ?_
      obtain rfl := Option.some.inj az
      exact Exists.intro _ ⟨_, rfl, (f2.keep [13, 11, 9, 4, 80] (by rfl)), ax, (Heap.le_refl _)⟩
     ·
      rw [b7, cond_false] at az
      have f3 : Kn 101 (K7e4 l m o ad at_ r_) ((tB 67 false) :: (K7m10 am x58 an ae x50 af at_ r_)) em := (d4.setB 67 false (by rfl) b7).keep [67, 13, 11, 9, 4] (by rfl)
      refine R_runk 7 7 [74, 13, 11, 9, 4] ((tB 74 (((x50.1.length : Nat) : Int) != ((x58.1.length : Nat) : Int))) :: (K7m10 am x58 an ae x50 af at_ r_)) f3 ax.plOk (by kernel_rfl) fun en d5 => ?_
      rcases Bool.eq_false_or_eq_true ((((x50.1.length : Nat) : Int) != ((x58.1.length : Nat) : Int))) with b8 | b8
      ·
       rw [b8, cond_true] at az
       have f4 : Kn 101 (K7e4 l m o ad at_ r_) ((tB 74 true) :: (K7m10 am x58 an ae x50 af at_ r_)) en := (d5.setB 74 true (by rfl) b8).keep [74, 13, 11, 9, 4] (by rfl)
       refine R_runk 14 6 [80, 13, 11, 9, 4] ((tB 80 true) :: (K7m10 am x58 an ae x50 af at_ r_)) f4 ax.plOk (by kernel_rfl) fun jb f5 => ?_
       refine wpFrom_end (by decide) ?_
       obtain rfl := Option.some.inj az
       exact Exists.intro _ ⟨_, rfl, (f5.keep [13, 11, 9, 4, 80] (by rfl)), ax, (Heap.le_refl _)⟩
      ·
       rw [b8, cond_false] at az
       have f6 : Kn 101 (K7e4 l m o ad at_ r_) ((tB 74 false) :: (K7m10 am x58 an ae x50 af at_ r_)) en := (d5.setB 74 false (by rfl) b8).keep [74, 13, 11, 9, 4] (by rfl)
       refine R_runk 14 3 [77, 76, 74, 13, 11, 9, 4] ((tA 77 (K7c5 x r_ ab p s z ac)) :: (tI 76 ((x50.1.length : Nat) : Int)) :: (tB 74 false) :: (K7m10 am x58 an ae x50 af at_ r_)) f6 ax.plOk (by kernel_rfl) fun jc d6 => ?_
       obtain ⟨x78, ex78, az⟩ := bnd az
       refine wpFrom_loud _ rfl (wantedS_sound d6 (by kernel_rfl)) fun K hK => ?_
       refine wp_call [.agg (K7c5 x r_ ab p s z ac)] _ d6 ax rfl rfl (by decide) (by rfl) rfl (fun _ _ => by kernel_rfl) (ref_Stops_ok n ax.has r_ ((rep_pair (rep_slice ah) (rep_pair (rep_pair rep_int rep_int) (rep_pair (rep_slice ag) (rep_pair (rep_slice ai) (rep_pair rep_int (rep_pair rep_int (rep_pair rep_int rep_int))))))) : rep d1 r_ _) ex78) fun j3 iw kd e0 a3 d8 => ?_
       replace ah := ah.mono a3
       replace ag := ag.mono a3
       replace ai := ai.mono a3
       replace aj := aj.mono a3
       replace ak := ak.mono a3
       replace al := al.mono a3
       replace ar := ar.mono a3
       replace aw := aw.mono a3
       replace a4 := a4.mono a3
       replace ap := ap.mono a3
       obtain rfl := e0
       refine ⟨.one (.c (.int .i64 x78)), rfl, fun h7 (f7 : Kn 101 (K7e4 l m o ad at_ r_) ((tI 78 x78) :: (tA 77 (K7c5 x r_ ab p s z ac)) :: (tI 76 ((x50.1.length : Nat) : Int)) :: (tB 74 false) :: (K7m10 am x58 an ae x50 af at_ r_)) h7) => hK _ _ ?_⟩
       refine R_runk 18 2 [80, 13, 11, 9, 4] ((tB 80 (((x50.1.length : Nat) : Int) != x78)) :: (K7m10 am x58 an ae x50 af at_ r_)) f7 d8.plOk (by kernel_rfl) fun jd f9 => ?_
       refine wpFrom_end (by decide) ?_
       obtain rfl := Option.some.inj az
       exact Exists.intro _ ⟨_, rfl, (f9.keep [13, 11, 9, 4, 80] (by rfl)), d8, a3⟩
   ·
    rintro _ ke ⟨ds, b4, rfl, c6, cw, a6⟩
    replace ah := ah.mono a6
    replace ag := ag.mono a6
    replace ai := ai.mono a6
    replace aj := aj.mono a6
    replace ak := ak.mono a6
    replace al := al.mono a6
    replace ar := ar.mono a6
    replace aw := aw.mono a6
    replace a4 := a4.mono a6
    replace ap := ap.mono a6
    refine wp_cond_sv (eh) c6 (by kernel_rfl) (fun c2 => ?_) (fun c2 => ?_)
    ·
     rw [c2, cond_true] at H
     refine wp_seq (wp_region_from (R_runk 0 1 [8] [(tB 8 false)] c6 cw.plOk (by kernel_rfl) fun je ga => ?_))
     refine wpFrom_end (by decide) (wp_ret ?_)
     obtain rfl := Option.some.inj H
     exact ret_ok (.one (.c (.bool false))) ga cw (by kernel_rfl) rfl
    ·
     rw [c2, cond_false] at H
     refine wp_skip (wp_seq (wp_seq (wp_region_from (R_runk 0 1 [15, 13, 11, 9, 4] ((tI 15 0) :: (K7m10 am x58 an ae x50 af at_ r_)) c6 cw.plOk (by kernel_rfl) fun jf gb => ?_))))
     refine wpFrom_end (by decide) ?_
     obtain ⟨ei, dy, H⟩ := bnd H
     refine wp_mid' (fun a' w' => ∃ (ek : Unit) (dt : Array Value) (c1 : Heap), a' = ⟨dt, []⟩ ∧ Kn 101 (K7e4 l m o ad at_ r_) [] dt ∧ Mem ⟨w, h, noX⟩ c1 (K7e4 l m o ad at_ r_) [⟨(K7c5 x r_ ab p s z ac), some 28⟩, ⟨(K7c3 y a aa b f d g), some 50⟩, ⟨(K7c2 q ao u b a f d g), some 50⟩, ⟨[], none⟩] (K7r9 q ao u aq at_ r_ hold) w' ∧ Heap.le b4 c1 ∧ ei = .go ek) ?_ ?_
     ·
      refine wp_block ?_
      refine wp_loop_n (fun hx a' w' => ∃ (x_v10 : Int) (du : Array Value) (bx : Heap), a' = ⟨du, []⟩ ∧ Kn 101 (K7e4 l m o ad at_ r_) ((tI 15 x_v10) :: (K7m10 am x58 an ae x50 af at_ r_)) du ∧ Mem ⟨w, h, noX⟩ bx (K7e4 l m o ad at_ r_) [⟨(K7c5 x r_ ab p s z ac), some 28⟩, ⟨(K7c3 y a aa b f d g), some 50⟩, ⟨(K7c2 q ao u b a f d g), some 50⟩, ⟨[], none⟩] (K7r9 q ao u aq at_ r_ hold) w' ∧ Heap.le b4 bx ∧ law_ControlBefore_l1 hx r_ at_ x50 x58 x_v10 = some ei) n ?_ ?_
      ·
       exact Exists.intro 0 ⟨_, _, rfl, (gb.keep [15, 13, 11, 9, 4] (by rfl)), cw, (Heap.le_refl _), dy⟩
      ·
       rintro dp _ dw ⟨x_v10, du, bx, rfl, gc, d9, a1, au⟩
       clear dy
       obtain _ | dp := dp
       ·
        rw [law_ControlBefore_l1] at au; cases au
       rw [law_ControlBefore_l1] at au
       replace ah := ah.mono a1
       replace ag := ag.mono a1
       replace ai := ai.mono a1
       replace aj := aj.mono a1
       replace ak := ak.mono a1
       replace al := al.mono a1
       replace ar := ar.mono a1
       replace aw := aw.mono a1
       replace a4 := a4.mono a1
       replace ap := ap.mono a1
       refine wp_seq (wp_seq (wp_region_from (R_runk 0 4 [84, 83, 81, 15, 13, 11, 9, 4] ((tI 84 (Int.tmod (IntKind.i64.wrap at_.n) ((r_.buses.length : Nat) : Int))) :: (tS 83 p r_.buses.length s) :: (tI 81 x_v10) :: (tI 15 x_v10) :: (K7m10 am x58 an ae x50 af at_ r_)) gc d9.plOk (by kernel_rfl) fun jh gd => ?_)))
       obtain ⟨x85, ex85, au⟩ := bnd au
       obtain ⟨hd, hg, hu⟩ := idx_some ex85
       obtain ⟨a9, ba, iq, e7, hq, fb⟩ := ag.get (by decide) hu
       obtain ⟨_, _, rfl, rfl, ⟨_, _, rfl, rfl, rfl⟩⟩ := hq
       have bs : Mem ⟨w, h, noX⟩ bx (K7e8 l m o ad at_ r_ a9 ba) [⟨(K7c5 x r_ ab p s z ac), some 28⟩, ⟨(K7c3 y a aa b f d g), some 50⟩, ⟨(K7c2 q ao u b a f d g), some 50⟩, ⟨[], none⟩, ⟨(K7c1 x85), none⟩] (K7r9 q ao u aq at_ r_ hold) dw := d9.addPlc (cs := (K7c1 x85)) (fun j c hj => fb j _ (map_get hj)) rfl (by kernel_rfl) (by kernel_rfl)
       refine R_index 4 (Int.tmod (IntKind.i64.wrap at_.n) ((r_.buses.length : Nat) : Int)) rfl rfl (rfl) rfl (by decide) gd (by rfl) (by rfl) (by rfl) e7 (by rfl) hd hg (by kernel_rfl) fun h8 (gg : Kn 101 (K7e8 l m o ad at_ r_ a9 ba) ((tP 85 4 0) :: (tI 84 (Int.tmod (IntKind.i64.wrap at_.n) ((r_.buses.length : Nat) : Int))) :: (tS 83 p r_.buses.length s) :: (tI 81 x_v10) :: (tI 15 x_v10) :: (K7m10 am x58 an ae x50 af at_ r_)) h8) => ?_
       refine R_runk 5 3 [88, 15, 13, 11, 9, 4] ((tB 88 (decide (x_v10 < x85.stop))) :: (tI 15 x_v10) :: (K7m10 am x58 an ae x50 af at_ r_)) gg bs.plOk (by kernel_rfl) fun ji c7 => ?_
       refine wpFrom_end (by decide) (wp_cond_sv (decide (x_v10 < x85.stop)) c7 (by kernel_rfl) (fun c3 => ?_) (fun c3 => ?_))
       ·
        rw [c3, cond_true] at au
        refine wp_skip (wp_seq (wp_block (wp_seq (wp_region_G (by kernel_rfl) ?_))))
        replace bs := bs.drew
        refine wpG_of_D [] (K7e8 l m o ad at_ r_ a9 ba) [⟨(K7c5 x r_ ab p s z ac), some 28⟩, ⟨(K7c3 y a aa b f d g), some 50⟩, ⟨(K7c2 q ao u b a f d g), some 50⟩, ⟨[], none⟩, ⟨(K7c1 x85), none⟩] ?_
        refine D_run [0, 1] [1, 0] [92, 91, 15, 13, 11, 9, 4] ((tI 92 x_v10) :: (tS 91 ae x50.1.length af) :: (tI 15 x_v10) :: (K7m10 am x58 an ae x50 af at_ r_)) (fun _ _ _ _ _ h => h) c7 bs.plOk (by kernel_rfl) (by rfl) (by kernel_rfl) fun jj gh => ?_
        obtain ⟨x93, ex93, au⟩ := bnd au
        obtain ⟨he, hl, hv⟩ := idx_some ex93
        obtain ⟨cm, cz, ir, e8, hr, fc⟩ := ar.get (by decide) hv
        obtain rfl := hr
        have dg : Mem ⟨w, h, noX⟩ bx [(l, 0), (m, 0), (o, 0), (ad, 0 + (Int.tmod (IntKind.i64.wrap at_.n) ((r_.buses.length : Nat) : Int) : Int).toNat * 1), (a9, ba + (Int.tmod (IntKind.i64.wrap at_.n) ((r_.buses.length : Nat) : Int) : Int).toNat * 3), (cm, cz + (x_v10 : Int).toNat * 1)] [⟨(K7c5 x r_ ab p s z ac), some 28⟩, ⟨(K7c3 y a aa b f d g), some 50⟩, ⟨(K7c2 q ao u b a f d g), some 50⟩, ⟨[], none⟩, ⟨(K7c1 x85), none⟩, ⟨[.int .i64 x93], none⟩] (K7r9 q ao u aq at_ r_ hold) (World.drew dw) := bs.addPlc (cs := [.int .i64 x93]) (fun j c hj => fc j _ (map_get hj)) rfl (by kernel_rfl) (by kernel_rfl)
        refine D_index 2 (x_v10) [.int .i64 x93] (fun _ _ _ _ _ h => h) rfl rfl (rfl) rfl (by decide) (by kernel_rfl) (by kernel_rfl) gh bs.plOk (by rfl) (by rfl) (by rfl) e8 (by rfl) he hl (by kernel_rfl) fun h9 (gi : Kn 101 [(l, 0), (m, 0), (o, 0), (ad, 0 + (Int.tmod (IntKind.i64.wrap at_.n) ((r_.buses.length : Nat) : Int) : Int).toNat * 1), (a9, ba + (Int.tmod (IntKind.i64.wrap at_.n) ((r_.buses.length : Nat) : Int) : Int).toNat * 3), (cm, cz + (x_v10 : Int).toNat * 1)] ((tP 93 5 0) :: (tI 92 x_v10) :: (tS 91 ae x50.1.length af) :: (tI 15 x_v10) :: (K7m10 am x58 an ae x50 af at_ r_)) h9) => ?_
        refine D_run [3, 4, 5] [5, 4, 3, 2, 1, 0] [96, 95, 94, 15, 13, 11, 9, 4] ((tI 96 x_v10) :: (tS 95 am x58.1.length an) :: (tI 94 x93) :: (tI 15 x_v10) :: (K7m10 am x58 an ae x50 af at_ r_)) (fun _ _ _ _ _ h => h) gi dg.plOk (by kernel_rfl) (by rfl) (by kernel_rfl) fun jk gj => ?_
        obtain ⟨x97, ex97, au⟩ := bnd au
        obtain ⟨hf, hn, hw⟩ := idx_some ex97
        obtain ⟨dx, ej, iu, e9, hs, fd⟩ := a4.get (by decide) hw
        obtain rfl := hs
        have cb : Mem ⟨w, h, noX⟩ bx [(l, 0), (m, 0), (o, 0), (ad, 0 + (Int.tmod (IntKind.i64.wrap at_.n) ((r_.buses.length : Nat) : Int) : Int).toNat * 1), (a9, ba + (Int.tmod (IntKind.i64.wrap at_.n) ((r_.buses.length : Nat) : Int) : Int).toNat * 3), (cm, cz + (x_v10 : Int).toNat * 1), (dx, ej + (x_v10 : Int).toNat * 1)] [⟨(K7c5 x r_ ab p s z ac), some 28⟩, ⟨(K7c3 y a aa b f d g), some 50⟩, ⟨(K7c2 q ao u b a f d g), some 50⟩, ⟨[], none⟩, ⟨(K7c1 x85), none⟩, ⟨[.int .i64 x93], none⟩, ⟨[.int .i64 x97], none⟩] (K7r9 q ao u aq at_ r_ hold) (World.drew dw) := dg.addPlc (cs := [.int .i64 x97]) (fun j c hj => fd j _ (map_get hj)) rfl (by kernel_rfl) (by kernel_rfl)
        refine D_index 6 (x_v10) [.int .i64 x97] (fun _ _ _ _ _ h => h) rfl rfl (rfl) rfl (by decide) (by kernel_rfl) (by kernel_rfl) gj dg.plOk (by rfl) (by rfl) (by rfl) e9 (by rfl) hf hn (by kernel_rfl) fun ia (gk : Kn 101 [(l, 0), (m, 0), (o, 0), (ad, 0 + (Int.tmod (IntKind.i64.wrap at_.n) ((r_.buses.length : Nat) : Int) : Int).toNat * 1), (a9, ba + (Int.tmod (IntKind.i64.wrap at_.n) ((r_.buses.length : Nat) : Int) : Int).toNat * 3), (cm, cz + (x_v10 : Int).toNat * 1), (dx, ej + (x_v10 : Int).toNat * 1)] ((tP 97 6 0) :: (tI 96 x_v10) :: (tS 95 am x58.1.length an) :: (tI 94 x93) :: (tI 15 x_v10) :: (K7m10 am x58 an ae x50 af at_ r_)) ia) => ?_
        refine D_run [7, 8] [8, 7, 6, 5, 4, 3, 2, 1, 0] [99, 15, 13, 11, 9, 4] ((tB 99 (x93 != x97)) :: (tI 15 x_v10) :: (K7m10 am x58 an ae x50 af at_ r_)) (fun _ _ _ _ _ h => h) gk cb.plOk (by kernel_rfl) (by rfl) (by kernel_rfl) fun jm c8 => ?_
        refine wpD_end (by kernel_rfl) (wp_cond_sv ((x93 != x97)) c8 (by kernel_rfl) (fun c4 => ?_) (fun c4 => ?_))
        ·
         rw [c4, cond_true] at au
         refine wp_seq (wp_region_from (R_runk 0 1 [8] [(tB 8 false)] c8 cb.plOk (by kernel_rfl) fun jn gl => ?_))
         refine wpFrom_end (by decide) (wp_ret ?_)
         obtain rfl := Option.some.inj au
         obtain rfl := Option.some.inj H
         exact ret_ok (.one (.c (.bool false))) gl cb (by kernel_rfl) rfl
        ·
         rw [c4, cond_false] at au
         refine wp_skip (wp_region_from (R_runk 0 3 [15, 13, 11, 9, 4] ((tI 15 (IntKind.i64.wrap (x_v10 + 1))) :: (K7m10 am x58 an ae x50 af at_ r_)) c8 cb.plOk (by kernel_rfl) fun jo gm => ?_))
         refine wpFrom_end (by decide) ?_
         exact Exists.intro dp ⟨Nat.lt_succ_self _, Exists.intro (IntKind.i64.wrap (x_v10 + 1)) ⟨_, _, rfl, ((gm.keep [15, 13, 11, 9, 4] (by rfl)).cut 4 (by kernel_rfl)), (cb.cutPl 4 (by kernel_rfl)), a1, au⟩⟩
       ·
        rw [c3, cond_false] at au
        refine wp_exit ?_
        obtain rfl := Option.some.inj au
        exact Exists.intro () ⟨_, _, rfl, ((c7.keep [] (by rfl)).cut 4 (by kernel_rfl)), (bs.cutPl 4 (by kernel_rfl)), a1, rfl⟩
     ·
      rintro _ kf ⟨ek, dt, c1, rfl, gn, ea, a7, rfl⟩
      rw [Ex.bind_go] at H
      replace ah := ah.mono a7
      replace ag := ag.mono a7
      replace ai := ai.mono a7
      replace aj := aj.mono a7
      replace ak := ak.mono a7
      replace al := al.mono a7
      replace ar := ar.mono a7
      replace aw := aw.mono a7
      replace a4 := a4.mono a7
      replace ap := ap.mono a7
      refine wp_seq (wp_region_from ?_)
      obtain ⟨x100, ex100, H⟩ := bnd H
      refine wpFrom_loud _ rfl (rfl) fun K hK => ?_
      refine wp_call [] _ gn ea rfl rfl (by decide) (by rfl) rfl (fun _ _ => by kernel_rfl) (law_awake_ok n ea.has  ex100) fun j4 ix kg e1 a8 eb => ?_
      replace ah := ah.mono a8
      replace ag := ag.mono a8
      replace ai := ai.mono a8
      replace aj := aj.mono a8
      replace ak := ak.mono a8
      replace al := al.mono a8
      replace ar := ar.mono a8
      replace aw := aw.mono a8
      replace a4 := a4.mono a8
      replace ap := ap.mono a8
      obtain rfl := e1
      refine ⟨.one (.c (.bool x100)), rfl, fun ib (gq : Kn 101 (K7e4 l m o ad at_ r_) [(tB 100 x100)] ib) => hK _ _ ?_⟩
      refine R_runk 1 1 [8] [(tB 8 x100)] gq eb.plOk (by kernel_rfl) fun jp gr => ?_
      refine wpFrom_end (by decide) (wp_ret ?_)
      obtain rfl := Option.some.inj H
      exact ret_ok (.one (.c (.bool x100))) gr eb (by kernel_rfl) rfl
end Go.Proofs.Ytokchpjijlebiaa
