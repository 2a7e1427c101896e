/- Each call computes its plain function. -/
import Derived.Test.YtkbphdjemgibnaaProg
import Derived.Test.YtkbphdjemgibnaaSsP0
import Derived.Test.YtkbphdjemgibnaaSsS6
import Derived.Test.YtkbphdjemgibnaaSsWP
import Derived.Test.YtkbphdjemgibnaaSsWQ
import Derived.Test.YtkbphdjemgibnaaSsWR
set_option linter.all false
namespace Go.Proofs.Ytkbphdjemgibnaa
open Go Go.RowKit
open Rep (rep)
open KRep (kv)
open VRep (rv)
abbrev K22c1 (k : Nat) (u : Option Addr) (m : Bx Book) (y : Nat) : List SC := [.map (some k), .slice u m.v.numbers.length y]
abbrev K22c2 (d : Card) : List SC := [.int .i64 d.bus, .int .i64 d.number, .int .i64 d.minute, .int .u8 d.kind.n, .int .i64 d.part, .int .i64 d.sg]
abbrev K22m3 (e : Option Addr) (x_v10 : List Int) (f : Nat) (at_ : Int) : TM := [(tP 28 1 0), (tS 8 e x_v10.length f), (tP 6 0 0), (tI 1 at_)]
abbrev K22m4 (at_ : Int) : TM := [(tP 6 0 0), (tI 1 at_)]
abbrev K22m5 (at_ : Int) : TM := [(6, .one (.c (.nilptr))), (tI 1 at_)]
set_option maxRecDepth 100000 in
set_option maxHeartbeats 4000000 in
theorem pit_Fit_ok (n : Nat) {h : Heap} {w : World} (hh : Has h w) (l : List Card) {a_l : Option Addr} {c_l : Nat} (hr_l : RepS h a_l c_l l) (at_ : Int) {Q : ((List Int) × Int) → Prop} (H : pit_Fit n l at_ Q) :
  Calls Try.prog 22 #[.slice a_l l.length c_l, .int .i64 at_] w (Ret (fun h v => ∃ r, Q r ∧ ∃ v0 v1, v = .tuple #[v0, v1] ∧ (∃ a c, v0 = .slice a r.1.length c ∧ RepS h a c r.1) ∧ (v1 = .int .i64 r.2)) h w) := by
 refine enter 55 [.c (.slice a_l l.length c_l), .c (.int .i64 at_)] Try.func22 rfl rfl rfl rfl fun t hk => ?_
 have hm := Mem.begin h w hh
 unfold pit_Fit at H
 refine wp_seq (wp_region_from (Rk 0 2 [(tS 0 a_l l.length c_l), (tI 1 at_)] hk hm fun fj dh => ?_))
 refine wf (wp_seq (wp_region_from (Rk 0 1 [(tS 12 a_l l.length c_l), (tI 1 at_)] dh hm fun fz dw => ?_)))
 obtain ⟨x13, ex13, H⟩ := H
 refine wl fun K hK => ?_
 refine wp_callP [.c (.slice a_l l.length c_l)] _ dw hm rfl rfl (by decide) (by rfl) rfl (fun _ _ => by kernel_rfl) (pit_read_ok n hm.has l hr_l ex13) fun gg cu fa a2 fh aj => ?_
 rcases a9 : x13.1 with _ | m
 ·
  rw [a9, ptrCase_none] at H
  rw [a9] at a2
  obtain ⟨_, _, rfl, rfl, rfl⟩ := a2
  refine .inl ⟨.tup [.c (.nilptr), .c (.int .i64 x13.2)], rfl, fun ew (da : Kn 55 [] [(13, .tup [.c (.nilptr), .c (.int .i64 x13.2)]), (tS 12 a_l l.length c_l), (tI 1 at_)] ew) => hK _ _ ?_⟩
  refine Rk 2 5 ((tI 7 x13.2) :: (K22m5 at_)) da aj fun fo dd => ?_
  refine wf (wp_seq (wp_block (wp_seq (wp_region_from (Rk 0 3 ((tB 16 (x13.2 != 0)) :: (tI 7 x13.2) :: (K22m5 at_)) dd aj fun fs bk => ?_)))))
  refine wf (wC ((x13.2 != 0)) bk (fun bd => ?_) (fun bd => ?_))
  ·
   rw [bd, cond_true] at H
   refine wp_seq (wp_region_from (Rk 0 3 [(tI 5 x13.2), (tS 4 none 0 0)] bk aj fun fw dq => ?_))
   refine wf (wp_ret ?_)
   exact rt (.tup [.c (.slice none 0 0), .c (.int .i64 x13.2)]) dq aj ⟨_, H, ⟨_, _, rfl, ⟨_, _, rfl, RepS.nil⟩, rfl⟩⟩
  ·
   rw [bd, cond_false] at H
   refine wp_seq (wp_region_from (Rk 0 1 ((tI 21 at_) :: (K22m5 at_)) bk aj fun fy dt => ?_))
   obtain ⟨x22, ex22, H⟩ := H
   refine wl fun K hK => ?_
   refine wc [.c (.int .i64 at_)] dt aj (pit_minute_ok n aj.has at_ ex22) fun gf fd gl cp fg a7 => ?_
   obtain rfl := cp
   refine ⟨.one (.c (.bool x22)), rfl, fun e1 (du : Kn 55 [] ((tB 22 x22) :: (tI 21 at_) :: (K22m5 at_)) e1) => hK _ _ ?_⟩
   refine Rk 2 2 ((tB 20 (!x22)) :: (K22m5 at_)) du a7 fun f0 bl => ?_
   refine wf (wC ((!x22)) bl (fun be => ?_) (fun be => ?_))
   ·
    rw [be, cond_true] at H
    refine wp_seq (wp_region_from (Rk 0 2 [(tI 5 2), (tS 4 none 0 0)] bl a7 fun f1 dv => ?_))
    refine wf (wp_ret ?_)
    exact rt (.tup [.c (.slice none 0 0), .c (.int .i64 2)]) dv a7 ⟨_, H, ⟨_, _, rfl, ⟨_, _, rfl, RepS.nil⟩, rfl⟩⟩
   ·
    rw [be, cond_false] at H
    refine wp_skip (wp_seq (wp_region_from (Rk 0 1 ((tS 8 none 0 0) :: (K22m5 at_)) bl a7 fun f2 fe => ?_)))
    refine wf (wp_seq (wp_seq (wp_region_from ?_)))
    exact H.elim
 ·
  rw [a9, ptrCase_some] at H
  rw [a9] at a2
  obtain ⟨_, _, rfl, ⟨g, rfl, ao⟩, rfl⟩ := a2
  obtain ⟨_, er, cx⟩ := id ao
  obtain ⟨_, _, rfl, ⟨k, b1, q, rfl, aa, ak⟩, ⟨u, y, rfl, a8⟩⟩ := er
  have am : Mem ⟨w, h, noX⟩ cu [(g, 0)] [⟨[.map (some k), .slice u m.v.numbers.length y], none⟩] [] fa := aj.addPlc (o := 0) (cs := [.map (some k), .slice u m.v.numbers.length y]) (fun j c hj => by rw [Nat.zero_add]; exact cx j _ (map_get hj)) rfl (by kernel_rfl) (by kernel_rfl)
  refine .inr ⟨g, .tup [.c (.ptr 0 0), .c (.int .i64 x13.2)], by kernel_rfl, rfl, fun e2 (dx : Kn 55 [(g, 0)] [(13, .tup [.c (.ptr 0 0), .c (.int .i64 x13.2)]), (tS 12 a_l l.length c_l), (tI 1 at_)] e2) => hK _ _ ?_⟩
  refine Rk 2 5 ((tI 7 x13.2) :: (K22m4 at_)) dx am fun f3 dy => ?_
  refine wf (wp_seq (wp_block (wp_seq (wp_region_from (Rk 0 3 ((tB 16 (x13.2 != 0)) :: (tI 7 x13.2) :: (K22m4 at_)) dy am fun f4 bm => ?_)))))
  refine wf (wC ((x13.2 != 0)) bm (fun bf => ?_) (fun bf => ?_))
  ·
   rw [bf, cond_true] at H
   refine wp_seq (wp_region_from (Rk 0 3 [(tI 5 x13.2), (tS 4 none 0 0)] bm am fun f5 dz => ?_))
   refine wf (wp_ret ?_)
   exact rt (.tup [.c (.slice none 0 0), .c (.int .i64 x13.2)]) dz am ⟨_, H, ⟨_, _, rfl, ⟨_, _, rfl, RepS.nil⟩, rfl⟩⟩
  ·
   rw [bf, cond_false] at H
   refine wp_seq (wp_region_from (Rk 0 1 ((tI 21 at_) :: (K22m4 at_)) bm am fun f6 d0 => ?_))
   obtain ⟨x22, ex22, H⟩ := H
   refine wl fun K hK => ?_
   refine wc [.c (.int .i64 at_)] d0 am (pit_minute_ok n am.has at_ ex22) fun gh av gm cq a3 aq => ?_
   replace ak := ak.mono a3
   replace a8 := a8.mono a3
   replace ao := ao.mono a3
   replace aa := a3 _ _ _ aa
   obtain rfl := cq
   refine ⟨.one (.c (.bool x22)), rfl, fun e3 (d1 : Kn 55 [(g, 0)] ((tB 22 x22) :: (tI 21 at_) :: (K22m4 at_)) e3) => hK _ _ ?_⟩
   refine Rk 2 2 ((tB 20 (!x22)) :: (K22m4 at_)) d1 aq fun f7 bn => ?_
   refine wf (wC ((!x22)) bn (fun bg => ?_) (fun bg => ?_))
   ·
    rw [bg, cond_true] at H
    refine wp_seq (wp_region_from (Rk 0 2 [(tI 5 2), (tS 4 none 0 0)] bn aq fun f8 d2 => ?_))
    refine wf (wp_ret ?_)
    exact rt (.tup [.c (.slice none 0 0), .c (.int .i64 2)]) d2 aq ⟨_, H, ⟨_, _, rfl, ⟨_, _, rfl, RepS.nil⟩, rfl⟩⟩
   ·
    rw [bg, cond_false] at H
    refine wp_skip (wp_seq (wp_region_from (Rk 0 1 ((tS 8 none 0 0) :: (K22m4 at_)) bn aq fun f9 d3 => ?_)))
    refine wf (wp_seq (wp_seq (wp_region_from (Rk 0 4 ((27, .one (.c (.map (some k)))) :: (tS 8 none 0 0) :: (K22m4 at_)) d3 aq fun ga d4 => ?_))))
    refine wl fun K hK => ?_
    refine wp_rangeP (KT := 3) (E := 99) (l := m.v.cards.l) d4 aq rfl rfl (by decide) (by rfl) (by kernel_rfl) aa ak (by kernel_rfl) fun b ci cj cr cl (d5 : Kn 55 [(g, 0), (b, 0)] ((tP 28 1 0) :: (27, .one (.c (.map (some k)))) :: (tS 8 none 0 0) :: (K22m4 at_)) ci) (eh : Mem (Fr.put ⟨w, h, noX⟩ b (some (.mapIter (some k) q #[] q))) av [(g, 0), (b, 0)] [⟨(K22c1 k u m y), none⟩, ⟨[], none⟩] [] cj) => hK _ _ ?_
    have d6 : Kn 55 [(g, 0), (b, 0)] ((tP 28 1 0) :: (tS 8 none 0 0) :: (K22m4 at_)) ci := d5.kp
    refine wf ?_
    have ei : Mem (Fr.put ⟨w, h, noX⟩ b (some (.mapIter (some k) q #[] q))) av [(g, 0), (b, 0)] [⟨(K22c1 k u m y), none⟩, ⟨[], none⟩] [⟨none, 0, 0, 3, 1, [], 0⟩] cj := eh.nilRow 3 1
    have cy : Cells av ([] : List Int) [] := Cells.nil
    obtain ⟨bx, cm, H⟩ := ptK (G := pit_Fit_l1 n at_ m ([] : List Int) m.v.cards.l) H
    refine wp_mid' (fun a' w' => ∃ (s : (List Int) × (List (Int × Card))) (x : Option Addr) (z : Nat) (bb : List Value) (bs : Array Nat) (bt : Array Value) (af : Heap), a' = ⟨bt, []⟩ ∧ Kn 55 [(g, 0), (b, 0)] [(tS 8 x s.1.length z)] bt ∧ Mem (Fr.put ⟨w, h, noX⟩ b (some (.mapIter (some k) q bs q))) af [(g, 0), (b, 0)] [⟨(K22c1 k u m y), none⟩, ⟨[], none⟩] [⟨x, s.1.length, z, 3, 1, bb, 0⟩] w' ∧ Heap.le av af ∧ Cells af s.1 bb ∧ IterS af b1 bs s.2 ∧ bx s) ?_ ?_
    ·
     refine wp_block ?_
     refine wp_loop_n (fun es a' w' => ∃ (x_v10 : List Int) (x_v11 : List (Int × Card)) (e : Option Addr) (f : Nat) (ab : List Value) (ad : Array Nat) (bu : Array Value) (ah : Heap), a' = ⟨bu, []⟩ ∧ Kn 55 [(g, 0), (b, 0)] (K22m3 e x_v10 f at_) bu ∧ Mem (Fr.put ⟨w, h, noX⟩ b (some (.mapIter (some k) q ad q))) ah [(g, 0), (b, 0)] [⟨(K22c1 k u m y), none⟩, ⟨[], none⟩] [⟨e, x_v10.length, f, 3, 1, ab, 0⟩] w' ∧ Heap.le av ah ∧ Cells ah x_v10 ab ∧ IterS ah b1 ad x_v11 ∧ pit_Fit_l1 es at_ m x_v10 x_v11 bx) n ?_ ?_
     ·
      exact Exists.intro ([] : List Int) ⟨m.v.cards.l, none, 0, ([]), #[], _, _, rfl, d6.kp, ei, (Heap.le_refl _), cy, cl, H⟩
     ·
      rintro an _ gi ⟨x_v10, x_v11, e, f, ab, ad, bu, ah, rfl, c1, bo, ai, al, b3, p⟩
      obtain _ | an := an
      ·
       rw [pit_Fit_l1] at p; exact p.elim
      rw [pit_Fit_l1] at p
      replace ak := ak.mono ai
      replace a8 := a8.mono ai
      replace ao := ao.mono ai
      replace aa := ai _ _ _ aa
      refine wp_seq (wp_region_from (wl fun K hK => ?_))
      refine wp_nextP c1 bo rfl rfl (by decide) (by rfl) (by rfl) aa ak b3 ?_ ?_
      ·
       intro em et (c2 : Kn 55 [(g, 0), (b, 0)] ((29, .tup [.c (.bool false)]) :: (K22m3 e x_v10 f at_)) et)
       replace p := p.1 em
       refine hK _ _ ?_
       refine Rk 1 1 ((tB 30 false) :: (K22m3 e x_v10 f at_)) c2 bo fun fk b5 => ?_
       refine wf (wp_seq (wC false b5 (fun hb => ?_) (fun hb => ?_)))
       ·
        cases hb
       refine wp_exit ?_
       exact Exists.intro (x_v10, x_v11) ⟨e, f, ab, ad, _, _, rfl, b5.kp, bo, ai, al, b3, p⟩
      ·
       intro ag ay d gb ba ej ep cz ar eu e4 d7 (a4 : Mem (Fr.put ⟨w, h, noX⟩ b (some (.mapIter (some k) q (Array.push ad ag) q))) ah [(g, 0), (b, 0)] [⟨(K22c1 k u m y), none⟩, ⟨[], none⟩] [⟨e, x_v10.length, f, 3, 1, ab, 0⟩] e4)
       replace p := p.2 ay d ba ej
       obtain ⟨_, rfl, ⟨_, _, rfl, rfl, ⟨_, _, rfl, rfl, ⟨_, _, rfl, rfl, ⟨_, _, rfl, rfl, ⟨_, _, rfl, rfl, rfl⟩⟩⟩⟩⟩⟩ := ep
       have c3 : Kn 55 [(g, 0), (b, 0)] ((29, .tup [.c (.bool true), .c (.int .i64 ay), .agg (K22c2 d)]) :: (K22m3 e x_v10 f at_)) eu := d7 (.tup [.c (.bool true), .c (.int .i64 ay), .agg (K22c2 d)]) rfl
       refine hK _ _ ?_
       refine Rk 1 1 ((tB 30 true) :: (K22m3 e x_v10 f at_)) c3 a4 fun fl b6 => ?_
       refine wf (wp_seq (wC true b6 (fun hb => ?_) (fun hb => ?_)))
       rotate_left
       ·
        cases hb
       refine wp_skip (wp_block (wp_seq (wp_region_from (wl fun K hK => ?_))))
       refine wp_entryP b6 a4 rfl rfl (by decide) (by rfl) (by rfl) aa ak cz fun ev d8 => ?_
       have c4 : Kn 55 [(g, 0), (b, 0)] ((31, .tup [.c (.int .i64 ay), .agg (K22c2 d)]) :: (tB 30 true) :: (K22m3 e x_v10 f at_)) ev := d8 (.tup [.c (.int .i64 ay), .agg (K22c2 d)]) rfl
       refine hK _ _ ?_
       refine Rk 1 1 ((tA 32 (K22c2 d)) :: (K22m3 e x_v10 f at_)) c4 a4 fun fm c5 => ?_
       refine wl fun K hK => ?_
       refine wa [.int .i64 0, .int .i64 0, .int .i64 0, .int .u8 0, .int .i64 0, .int .i64 0] c5 a4 fun ac cg e5 (c6 : Kn 55 [(g, 0), (b, 0), (ac, 0)] ((tP 10 2 0) :: (tA 32 (K22c2 d)) :: (K22m3 e x_v10 f at_)) cg) (ed : Mem (Fr.put ⟨w, h, noX⟩ b (some (.mapIter (some k) q (Array.push ad ag) q))) ah [(g, 0), (b, 0), (ac, 0)] [⟨(K22c1 k u m y), none⟩, ⟨[], none⟩, ⟨[.int .i64 0, .int .i64 0, .int .i64 0, .int .u8 0, .int .i64 0, .int .i64 0], some 99⟩] [⟨e, x_v10.length, f, 3, 1, ab, 0⟩] e5) => hK _ _ ?_
       refine wl fun K hK => ?_
       refine wst 2 0 (.agg (K22c2 d)) (K22c2 d) c6 ed fun e6 c7 (a5 : Mem (Fr.put ⟨w, h, noX⟩ b (some (.mapIter (some k) q (Array.push ad ag) q))) ah [(g, 0), (b, 0), (ac, 0)] [⟨(K22c1 k u m y), none⟩, ⟨[], none⟩, ⟨(K22c2 d), some 99⟩] [⟨e, x_v10.length, f, 3, 1, ab, 0⟩] e6) => hK _ _ ?_
       have c8 : Kn 55 [(g, 0), (b, 0), (ac, 0)] ((tP 10 2 0) :: (K22m3 e x_v10 f at_)) cg := c7.kp
       refine wf (wp_seq (wp_region_from (Rk 0 3 ((tI 35 d.bus) :: (tS 33 e x_v10.length f) :: (tP 10 2 0) :: (K22m3 e x_v10 f at_)) c8 a5 fun fn c9 => ?_)))
       obtain ⟨ct, eb, en, ee⟩ := a5.settle (i := 0) rfl
       have ek : RepS ct e f x_v10 := ⟨_, al.mono eb, en, a5.rowCap (i := 0) rfl⟩
       obtain ⟨x36, ex36, p⟩ := p
       refine wl fun K hK => ?_
       refine wp_callS [.c (.slice e x_v10.length f), .c (.int .i64 d.bus)] _ c9 a5 rfl rfl (by decide) (by rfl) rfl (fun _ _ => by kernel_rfl) (slices_Contains_int_int_ok an ee.has x_v10 ek d.bus ex36) fun gc fc gj cn ff ap => ?_
       obtain rfl := cn
       refine ⟨.one (.c (.bool x36)), rfl, fun ex (db : Kn 55 [(g, 0), (b, 0), (ac, 0)] ((tB 36 x36) :: (tI 35 d.bus) :: (tS 33 e x_v10.length f) :: (tP 10 2 0) :: (K22m3 e x_v10 f at_)) ex) => hK _ _ ?_⟩
       refine Rk 4 2 ((tB 38 (!x36)) :: (tP 10 2 0) :: (K22m3 e x_v10 f at_)) db ap fun ch b7 => ?_
       rcases Bool.eq_false_or_eq_true ((!x36)) with aw | aw
       ·
        rw [aw, cond_true] at p
        have dc : Kn 55 [(g, 0), (b, 0), (ac, 0)] ((tB 38 true) :: (tP 10 2 0) :: (K22m3 e x_v10 f at_)) ch := (b7.setB 38 true (by rfl) aw).kp
        refine Rk 6 4 ((tI 42 at_) :: (tI 41 d.bus) :: (tP 39 0 0) :: (tB 38 true) :: (tP 10 2 0) :: (K22m3 e x_v10 f at_)) dc ap fun fp b8 => ?_
        obtain ⟨x43, ex43, p⟩ := p
        refine wpFrom_loud _ rfl (wantedS_sound b8 (by kernel_rfl)) fun K hK => ?_
        refine wc [.c (.ptr 0 0), .c (.int .i64 d.bus), .c (.int .i64 at_)] b8 ap (pit_book_opens_ok an ap.has m ao d.bus at_ ex43) fun gd au gk co ax a6 => ?_
        replace al := al.mono ax
        replace ar := ar.mono ax
        replace aa := ax _ _ _ aa
        obtain ⟨bz, b0, rfl, fi⟩ := co
        refine ⟨.one (.c (.slice bz x43.length b0)), rfl, fun ey (de : Kn 55 [(g, 0), (b, 0), (ac, 0)] ((tS 43 bz x43.length b0) :: (tI 42 at_) :: (tI 41 d.bus) :: (tP 39 0 0) :: (tB 38 true) :: (tP 10 2 0) :: (K22m3 e x_v10 f at_)) ey) => hK _ _ ?_⟩
        refine Rk 11 3 ((tB 46 (((x43.length : Nat) : Int) == 0)) :: (tP 10 2 0) :: (K22m3 e x_v10 f at_)) de a6 fun fq bj => ?_
        refine wf (wC ((((x43.length : Nat) : Int) == 0)) bj (fun bc => ?_) (fun bc => ?_))
        ·
         rw [bc, cond_true] at p
         refine wp_region_from (Rk 0 3 ((tI 49 d.bus) :: (tS 47 e x_v10.length f) :: (tP 28 1 0) :: (K22m4 at_)) bj a6 fun fr df => ?_)
         refine wl fun K hK => ?_
         refine wS 3 1 [.int .i64 d.bus] df a6 fun az ez e7 (dg : Kn 55 [(g, 0), (b, 0), (ac, 0)] ((tS 50 az 1 1) :: (tI 49 d.bus) :: (tS 47 e x_v10.length f) :: (tP 28 1 0) :: (K22m4 at_)) ez) (cb : Mem (Fr.put ⟨w, h, noX⟩ b (some (.mapIter (some k) q (Array.push ad ag) q))) au [(g, 0), (b, 0), (ac, 0)] [⟨(K22c1 k u m y), none⟩, ⟨[], none⟩, ⟨(K22c2 d), some 99⟩] [⟨e, x_v10.length, f, 3, 1, ab, 0⟩, ⟨az, 1, 1, 3, 1, ([.int .i64 d.bus] : List Value), 0⟩] e7) => ?_
         have bh : Cells au ([d.bus] : List Int) ([.int .i64 d.bus] : List Value) := ⟨_, _, rfl, (rep_int : rep au (d.bus : Int) _), rfl⟩
         refine hK _ _ ?_
         obtain ⟨x51, ex51, p⟩ := p
         obtain ⟨br, d9⟩ := app_some ex51
         refine wl fun K hK => ?_
         refine wp_append 0 8 1 _ (x51.length) _ ([.int .i64 d.bus] : List Value) dg cb rfl rfl (by decide) rfl (by rfl) (by kernel_rfl) (by rfl) (by rfl) (Cells.len bh) (cb.rowCell (i := 1) rfl) bh.one (by rw [br]; simp <;> omega) (by rw [br]; exact d9) (by decide) fun a0 a1 b2 e0 e8 c0 (di : Kn 55 [(g, 0), (b, 0), (ac, 0)] ((tS 51 a0 x51.length a1) :: (tS 50 az 1 1) :: (tI 49 d.bus) :: (tS 47 e x_v10.length f) :: (tP 28 1 0) :: (K22m4 at_)) e0) (cc : Mem (Fr.put ⟨w, h, noX⟩ b (some (.mapIter (some k) q (Array.push ad ag) q))) au [(g, 0), (b, 0), (ac, 0)] [⟨(K22c1 k u m y), none⟩, ⟨[], none⟩, ⟨(K22c2 d), some 99⟩] [⟨a0, x51.length, a1, 3, 1, (ab ++ ([.int .i64 d.bus] : List Value)), b2⟩, ⟨az, 1, 1, 3, 1, ([.int .i64 d.bus] : List Value), 0⟩] e8) => ?_
         have cw : Cells au x51 (ab ++ ([.int .i64 d.bus] : List Value)) := by rw [br]; exact Cells.append al bh
         obtain rfl : b2 = 0 := Nat.le_zero.1 c0
         refine hK _ _ ?_
         refine Rk 5 1 ((tS 8 a0 x51.length a1) :: (tP 28 1 0) :: (K22m4 at_)) di cc fun ft dj => ?_
         refine wf ?_
         exact Exists.intro an ⟨Nat.lt_succ_self _, Exists.intro x51 ⟨ba, a0, a1, (ab ++ ([.int .i64 d.bus] : List Value)), (Array.push ad ag), _, _, rfl, ((dj.keep [28, 8, 6, 1] (by rfl)).cut 2 (by kernel_rfl)), ((cc.cutRw 1).cutPl 2 (by kernel_rfl)), (Heap.le_trans ai ax), cw, ar, p⟩⟩
        ·
         rw [bc, cond_false] at p
         refine wp_skip ?_
         exact Exists.intro an ⟨Nat.lt_succ_self _, Exists.intro x_v10 ⟨ba, e, f, ab, (Array.push ad ag), _, _, rfl, ((bj.keep [28, 8, 6, 1] (by rfl)).cut 2 (by kernel_rfl)), (a6.cutPl 2 (by kernel_rfl)), (Heap.le_trans ai ax), al, ar, p⟩⟩
       ·
        rw [aw, cond_false] at p
        have dk : Kn 55 [(g, 0), (b, 0), (ac, 0)] ((tB 38 false) :: (tP 10 2 0) :: (K22m3 e x_v10 f at_)) ch := (b7.setB 38 false (by rfl) aw).kp
        refine Rk 6 8 ((tB 46 false) :: (tP 10 2 0) :: (K22m3 e x_v10 f at_)) dk ap fun fu b9 => ?_
        refine wf (wC false b9 (fun hb => ?_) (fun hb => ?_))
        ·
         cases hb
        refine wp_skip ?_
        exact Exists.intro an ⟨Nat.lt_succ_self _, Exists.intro x_v10 ⟨ba, e, f, ab, (Array.push ad ag), _, _, rfl, ((b9.keep [28, 8, 6, 1] (by rfl)).cut 2 (by kernel_rfl)), (ap.cutPl 2 (by kernel_rfl)), ai, al, ar, p⟩⟩
    ·
     rintro _ e9 ⟨s, x, z, bb, bs, bt, af, rfl, dl, ef, ec, cv, fb, H⟩
     rw [cm] at H
     replace aa := ec _ _ _ aa
     have cd : Mem ⟨w, h, noX⟩ af [(g, 0), (b, 0)] [⟨(K22c1 k u m y), none⟩, ⟨[], none⟩] [⟨x, s.1.length, z, 3, 1, bb, 0⟩] e9 := Mem.dropX cr ef
     refine wp_seq (wp_region_from (Rk 0 1 [(tS 52 x s.1.length z), (tS 8 x s.1.length z)] dl cd fun fv dm => ?_))
     obtain ⟨ae, ck, H⟩ := H
     obtain ⟨ea, cf⟩ := sortO_some ck
     refine wl fun K hK => ?_
     refine wp_sort Try.sorts 0 dm cd rfl rfl (by decide) (by rfl) (fun _ _ => by kernel_rfl) rfl rfl rfl rfl cv ea fun bv bw (dn : Kn 55 [(g, 0), (b, 0)] [(53, .tup []), (tS 52 x s.1.length z), (tS 8 x s.1.length z)] bv) (eg : Mem ⟨w, h, noX⟩ af [(g, 0), (b, 0)] [⟨(K22c1 k u m y), none⟩, ⟨[], none⟩] [⟨x, s.1.length, z, 3, 1, (List.map (Value.int .i64) (sortI s.1)), 0⟩] bw) => ?_
     have bi : Cells af ae (List.map (Value.int .i64) (sortI s.1)) := by rw [cf]; exact cells_ofInts _ _
     have ce : s.1.length = ae.length := by rw [cf, sortI_len]
     have dp : Kn 55 [(g, 0), (b, 0)] [(53, .tup []), (52, .one (.c (.slice x ae.length z))), (8, .one (.c (.slice x ae.length z)))] bv := by rw [← ce]; exact dn
     have bp : Mem ⟨w, h, noX⟩ af [(g, 0), (b, 0)] [⟨[.map (some k), .slice u m.v.numbers.length y], none⟩, ⟨[], none⟩] [⟨x, ae.length, z, 3, 1, (List.map (Value.int .i64) (sortI s.1)), 0⟩] bw := by rw [← ce]; exact eg
     refine hK _ _ ?_
     have dr : Kn 55 [(g, 0), (b, 0)] [(tS 8 x ae.length z)] bv := dp.kp
     refine wf (wp_seq (wp_region_from (Rk 0 3 [(tI 5 0), (tS 4 x ae.length z)] dr bp fun fx ds => ?_)))
     refine wf (wp_ret ?_)
     obtain ⟨b4, ca, eo, bq⟩ := bp.settle (i := 0) rfl
     replace bi := bi.mono ca
     replace aa := ca _ _ _ aa
     replace bq : Mem ⟨w, h, noX⟩ b4 [(g, 0), (b, 0)] [⟨(K22c1 k u m y), none⟩, ⟨[], none⟩] [⟨x, ae.length, z, 3, 1, (List.map (Value.int .i64) (sortI s.1)), ((List.map (Value.int .i64) (sortI s.1)) : List Value).length⟩] bw := bq
     have el : RepS b4 x z ae := ⟨_, bi, eo, bp.rowCap (i := 0) rfl⟩
     exact rt (.tup [.c (.slice x ae.length z), .c (.int .i64 0)]) ds bq ⟨_, H, ⟨_, _, rfl, ⟨_, _, rfl, el⟩, rfl⟩⟩
theorem pit_FitL_ok (n : Nat) {h : Heap} {w : World} (hh : Has h w) (l : List Card) {a_l : Option Addr} {c_l : Nat} (hr_l : RepS h a_l c_l l) (at_ : Int) {r : (List Int) × Int} (H : pit_FitL n l at_ = some r) :
    Calls Try.prog 22 #[.slice a_l l.length c_l, .int .i64 at_] w (Ret (fun h v => ∃ v0 v1, v = .tuple #[v0, v1] ∧ (∃ a c, v0 = .slice a r.1.length c ∧ RepS h a c r.1) ∧ (v1 = .int .i64 r.2)) h w) :=
  (pit_Fit_ok n hh l hr_l at_ (pit_Fit_of H)).mono fun en w' ⟨v, h', h1, h3, h4, h5, h2⟩ => ⟨v, h', h1, h3, h4, h5, by
    obtain ⟨q, rfl, hv⟩ := h2
    exact hv⟩
end Go.Proofs.Ytkbphdjemgibnaa
