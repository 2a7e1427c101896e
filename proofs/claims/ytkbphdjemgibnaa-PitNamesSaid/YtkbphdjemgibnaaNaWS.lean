/- Each call computes its plain function. -/
import Derived.Test.YtkbphdjemgibnaaProg
import Derived.Test.YtkbphdjemgibnaaNaP0
import Derived.Test.YtkbphdjemgibnaaNaS6
import Derived.Test.YtkbphdjemgibnaaNaWP
import Derived.Test.YtkbphdjemgibnaaNaWQ
import Derived.Test.YtkbphdjemgibnaaNaWR
set_option linter.all false
namespace Go.Proofs.Ytkbphdjemgibnaa
open Go Go.RowKit
open Rep (rep)
open KRep (kv)
open VRep (rv)
abbrev K22c1 (k : Nat) (u : Option Addr) (m : Bx Book) (y : Nat) : List SC := [.map (some k), .slice u m.v.numbers.length y]
abbrev K22c2 (d : Card) : List SC := [.int .i64 d.bus, .int .i64 d.number, .int .i64 d.minute, .int .u8 d.kind.n, .int .i64 d.part, .int .i64 d.sg]
abbrev K22m3 (e : Option Addr) (x_v10 : List Int) (f : Nat) (at_ : Int) : TM := [(tP 28 1 0), (tS 8 e x_v10.length f), (tP 6 0 0), (tI 1 at_)]
abbrev K22m4 (at_ : Int) : TM := [(tP 6 0 0), (tI 1 at_)]
abbrev K22m5 (at_ : Int) : TM := [(6, .one (.c (.nilptr))), (tI 1 at_)]
set_option maxRecDepth 100000 in
set_option maxHeartbeats 4000000 in
theorem pit_Fit_ok (n : Nat) {h : Heap} {w : World} (hh : Has h w) (l : List Card) {a_l : Option Addr} {c_l : Nat} (hr_l : RepS h a_l c_l l) (at_ : Int) {Q : ((List Int) × Int) → Prop} (H : pit_Fit n l at_ Q) :
  Calls Try.prog 22 #[.slice a_l l.length c_l, .int .i64 at_] w (Ret (fun h v => ∃ r, Q r ∧ ∃ v0 v1, v = .tuple #[v0, v1] ∧ (∃ a c, v0 = .slice a r.1.length c ∧ RepS h a c r.1) ∧ (v1 = .int .i64 r.2)) h w) := by
 refine enter 55 [.c (.slice a_l l.length c_l), .c (.int .i64 at_)] Try.func22 rfl rfl rfl rfl fun t hk => ?_
 have hm := Mem.begin h w hh
 unfold pit_Fit at H
 refine wp_seq (wp_region_from (Rk 0 2 [(tS 0 a_l l.length c_l), (tI 1 at_)] hk hm fun fj dh => ?_))
 refine wf (wp_seq (wp_region_from (Rk 0 1 [(tS 12 a_l l.length c_l), (tI 1 at_)] dh hm fun fz dw => ?_)))
 obtain ⟨x13, ex13, H⟩ := H
 refine wl fun K hK => ?_
 refine wp_callP [.c (.slice a_l l.length c_l)] _ dw hm rfl rfl (by decide) (by rfl) rfl (fun _ _ => by kernel_rfl) (pit_read_ok n hm.has l hr_l ex13) fun gg cu fa a2 fh aj => ?_
 rcases a9 : x13.1 with _ | m
 ·
  rw [a9, ptrCase_none] at H
  rw [a9] at a2
  obtain ⟨_, _, rfl, rfl, rfl⟩ := a2
  refine .inl ⟨.tup [.c (.nilptr), .c (.int .i64 x13.2)], rfl, fun ew (da : Kn 55 [] [(13, .tup [.c (.nilptr), .c (.int .i64 x13.2)]), (tS 12 a_l l.length c_l), (tI 1 at_)] ew) => hK _ _ ?_⟩
  refine Rk 2 5 ((tI 7 x13.2) :: (K22m5 at_)) da aj fun fo dd => ?_
  refine wf (wp_seq (wp_block (wp_seq (wp_region_from (Rk 0 3 ((tB 16 (x13.2 != 0)) :: (tI 7 x13.2) :: (K22m5 at_)) dd aj fun fs bk => ?_)))))
  refine wf (wC ((x13.2 != 0)) bk (fun bd => ?_) (fun bd => ?_))
  ·
   rw [bd, cond_true] at H
   refine wp_seq (wp_region_from (Rk 0 3 [(tI 5 x13.2), (tS 4 none 0 0)] bk aj fun fw dq => ?_))
   refine wf (wp_ret ?_)
   exact rt (.tup [.c (.slice none 0 0), .c (.int .i64 x13.2)]) dq aj ⟨_, H, ⟨_, _, rfl, ⟨_, _, rfl, RepS.nil⟩, rfl⟩⟩
  ·
   rw [bd, cond_false] at H
   refine wp_seq (wp_region_from (Rk 0 1 ((tI 21 at_) :: (K22m5 at_)) bk aj fun fy dt => ?_))
   obtain ⟨x22, ex22, H⟩ := H
   refine wl fun K hK => ?_
   refine wc [.c (.int .i64 at_)] dt aj (pit_minute_ok n aj.has at_ ex22) fun gf fd gl cp fg a7 => ?_
   obtain rfl := cp
   refine ⟨.one (.c (.bool x22)), rfl, fun e1 (du : Kn 55 [] ((tB 22 x22) :: (tI 21 at_) :: (K22m5 at_)) e1) => hK _ _ ?_⟩
   refine Rk 2 2 ((tB 20 (!x22)) :: (K22m5 at_)) du a7 fun f0 bl => ?_
   refine wf (wC ((!x22)) bl (fun be => ?_) (fun be => ?_))
   ·
    rw [be, cond_true] at H
    refine wp_seq (wp_region_from (Rk 0 2 [(tI 5 2), (tS 4 none 0 0)] bl a7 fun f1 dv => ?_))
    refine wf (wp_ret ?_)
    exact rt (.tup [.c (.slice none 0 0), .c (.int .i64 2)]) dv a7 ⟨_, H, ⟨_, _, rfl, ⟨_, _, rfl, RepS.nil⟩, rfl⟩⟩
   ·
    rw [be, cond_false] at H
    refine wp_skip (wp_seq (wp_region_from (Rk 0 1 ((tS 8 none 0 0) :: (K22m5 at_)) bl a7 fun f2 fe => ?_)))
    refine wf (wp_seq (wp_seq (wp_region_from ?_)))
    exact H.elim
 ·
  rw [a9, ptrCase_some] at H
  rw [a9] at a2
  obtain ⟨_, _, rfl, ⟨g, rfl, ao⟩, rfl⟩ := a2
  obtain ⟨_, er, cx⟩ := id ao
  obtain ⟨_, _, rfl, ⟨k, b1, q, rfl, aa, ak⟩, ⟨u, y, rfl, a8⟩⟩ := er
  have am : Mem ⟨w, h, noX⟩ cu [(g, 0)] [⟨[.map (some k), .slice u m.v.numbers.length y], none⟩] [] fa := aj.addPlc (o := 0) (cs := [.map (some k), .slice u m.v.numbers.length y]) (fun j c hj => by rw [Nat.zero_add]; exact cx j _ (map_get hj)) rfl (by kernel_rfl) (by kernel_rfl)
  refine .inr ⟨g, .tup [.c (.ptr 0 0), .c (.int .i64 x13.2)], by kernel_rfl, rfl, fun e2 (dx : Kn 55 [(g, 0)] [(13, .tup [.c (.ptr 0 0), .c (.int .i64 x13.2)]), (tS 12 a_l l.length c_l), (tI 1 at_)] e2) => hK _ _ ?_⟩
  refine Rk 2 5 ((tI 7 x13.2) :: (K22m4 at_)) dx am fun f3 dy => ?_
  refine wf (wp_seq (wp_block (wp_seq (wp_region_from (Rk 0 3 ((tB 16 (x13.2 != 0)) :: (tI 7 x13.2) :: (K22m4 at_)) dy am fun f4 bm => ?_)))))
  refine wf (wC ((x13.2 != 0)) bm (fun bf => ?_) (fun bf => ?_))
  ·
   rw [bf, cond_true] at H
   refine wp_seq (wp_region_from (Rk 0 3 [(tI 5 x13.2), (tS 4 none 0 0)] bm am fun f5 dz => ?_))
   refine wf (wp_ret ?_)
   exact rt (.tup [.c (.slice none 0 0), .c (.int .i64 x13.2)]) dz am ⟨_, H, ⟨_, _, rfl, ⟨_, _, rfl, RepS.nil⟩, rfl⟩⟩
  ·
   rw [bf, cond_false] at H
   refine wp_seq (wp_region_from (Rk 0 1 ((tI 21 at_) :: (K22m4 at_)) bm am fun f6 d0 => ?_))
   obtain ⟨x22, ex22, H⟩ := H
   refine wl fun K hK => ?_
   refine wc [.c (.int .i64 at_)] d0 am (pit_minute_ok n am.has at_ ex22) fun gh av gm cq a3 aq => ?_
   replace ak := ak.mono a3
   replace a8 := a8.mono a3
   replace ao := ao.mono a3
   replace aa := a3 _ _ _ aa
   obtain rfl := cq
   refine ⟨.one (.c (.bool x22)), rfl, fun e3 (d1 : Kn 55 [(g, 0)] ((tB 22 x22) :: (tI 21 at_) :: (K22m4 at_)) e3) => hK _ _ ?_⟩
   refine Rk 2 2 ((tB 20 (!x22)) :: (K22m4 at_)) d1 aq fun f7 bn => ?_
   refine wf (wC ((!x22)) bn (fun bg => ?_) (fun bg => ?_))
   ·
    rw [bg, cond_true] at H
    refine wp_seq (wp_region_from (Rk 0 2 [(tI 5 2), (tS 4 none 0 0)] bn aq fun f8 d2 => ?_))
    refine wf (wp_ret ?_)
    exact rt (.tup [.c (.slice none 0 0), .c (.int .i64 2)]) d2 aq ⟨_, H, ⟨_, _, rfl, ⟨_, _, rfl, RepS.nil⟩, rfl⟩⟩
   ·
    rw [bg, cond_false] at H
    refine wp_skip (wp_seq (wp_region_from (Rk 0 1 ((tS 8 none 0 0) :: (K22m4 at_)) bn aq fun f9 d3 => ?_)))
    refine wf (wp_seq (wp_seq (wp_region_from (Rk 0 4 ((27, .one (.c (.map (some k)))) :: (tS 8 none 0 0) :: (K22m4 at_)) d3 aq fun ga d4 => ?_))))
    refine wl fun K hK => ?_
    refine wp_rangeP (KT := 3) (E := 99) (l := m.v.cards.l) d4 aq rfl rfl (by decide) (by rfl) (by kernel_rfl) aa ak (by kernel_rfl) fun b ci cj cr cl (d5 : Kn 55 [(g, 0), (b, 0)] ((tP 28 1 0) :: (27, .one (.c (.map (some k)))) :: (tS 8 none 0 0) :: (K22m4 at_)) ci) (eh : Mem (Fr.put ⟨w, h, noX⟩ b (some (.mapIter (some k) q #[] q))) av [(g, 0), (b, 0)] [⟨(K22c1 k u m y), none⟩, ⟨[], none⟩] [] cj) => hK _ _ ?_
    have d6 : Kn 55 [(g, 0), (b, 0)] ((tP 28 1 0) :: (tS 8 none 0 0) :: (K22m4 at_)) ci := d5.kp
    refine wf ?_
    have ei : Mem (Fr.put ⟨w, h, noX⟩ b (some (.mapIter (some k) q #[] q))) av [(g, 0), (b, 0)] [⟨(K22c1 k u m y), none⟩, ⟨[], none⟩] [⟨none, 0, 0, 3, 1, [], 0⟩] cj := eh.nilRow 3 1
    have cy : Cells av ([] : List Int) [] := Cells.nil
    obtain ⟨bx, cm, H⟩ := ptK (G := pit_Fit_l1 n at_ m ([] : List Int) m.v.cards.l) H
    refine wp_mid' (fun a' w' => ∃ (s : (List Int) × (List (Int × Card))) (x : Option Addr) (z : Nat) (bb : List Value) (bs : Array Nat) (bt : Array Value) (af : Heap), a' = ⟨bt, []⟩ ∧ Kn 55 [(g, 0), (b, 0)] [(tS 8 x s.1.length z)] bt ∧ Mem (Fr.put ⟨w, h, noX⟩ b (some (.mapIter (some k) q bs q))) af [(g, 0), (b, 0)] [⟨(K22c1 k u m y), none⟩, ⟨[], none⟩] [⟨x, s.1.length, z, 3, 1, bb, 0⟩] w' ∧ Heap.le av af ∧ Cells af s.1 bb ∧ IterS af b1 bs s.2 ∧ bx s) ?_ ?_
    ·
     refine wp_block ?_
     refine wp_loop_n (fun es a' w' => ∃ (x_v10 : List Int) (x_v11 : List (Int × Card)) (e : Option Addr) (f : Nat) (ab : List Value) (ad : Array Nat) (bu : Array Value) (ah : Heap), a' = ⟨bu, []⟩ ∧ Kn 55 [(g, 0), (b, 0)] (K22m3 e x_v10 f at_) bu ∧ Mem (Fr.put ⟨w, h, noX⟩ b (some (.mapIter (some k) q ad q))) ah [(g, 0), (b, 0)] [⟨(K22c1 k u m y), none⟩, ⟨[], none⟩] [⟨e, x_v10.length, f, 3, 1, ab, 0⟩] w' ∧ Heap.le av ah ∧ Cells ah x_v10 ab ∧ IterS ah b1 ad x_v11 ∧ pit_Fit_l1 es at_ m x_v10 x_v11 bx) n ?_ ?_
     ·
      exact Exists.intro ([] : List Int) ⟨m.v.cards.l, none, 0, ([]), #[], _, _, rfl, d6.kp, ei, (Heap.le_refl _), cy, cl, H⟩
     ·
      rintro an _ gi ⟨x_v10, x_v11, e, f, ab, ad, bu, ah, rfl, c1, bo, ai, al, b3, p⟩
      obtain _ | an := an
      ·
       rw [pit_Fit_l1] at p; exact p.elim
      rw [pit_Fit_l1] at p
      replace ak := ak.mono ai
      replace a8 := a8.mono ai
      replace ao := ao.mono ai
      replace aa := ai _ _ _ aa
      refine wp_seq (wp_region_from (wl fun K hK => ?_))
      refine wp_nextP c1 bo rfl rfl (by decide) (by rfl) (by rfl) aa ak b3 ?_ ?_
      ·
       intro em et (c2 : Kn 55 [(g, 0), (b, 0)] ((29, .tup [.c (.bool false)]) :: (K22m3 e x_v10 f at_)) et)
       replace p := p.1 em
       refine hK _ _ ?_
       refine Rk 1 1 ((tB 30 false) :: (K22m3 e x_v10 f at_)) c2 bo fun fk b5 => ?_
       refine wf (wp_seq (wC false b5 (fun hb => ?_) (fun hb => ?_)))
       ·
        cases hb
       refine wp_exit ?_
       exact Exists.intro (x_v10, x_v11) ⟨e, f, ab, ad, _, _, rfl, b5.kp, bo, ai, al, b3, p⟩
      ·
       intro ag ay d gb ba ej ep cz ar eu e4 d7 (a4 : Mem (Fr.put ⟨w, h, noX⟩ b (some (.mapIter (some k) q (Array.push ad ag) q))) ah [(g, 0), (b, 0)] [⟨(K22c1 k u m y), none⟩, ⟨[], none⟩] [⟨e, x_v10.length, f, 3, 1, ab, 0⟩] e4)
       replace p := p.2 ay d ba ej
       obtain ⟨_, rfl, ⟨_, _, rfl, rfl, ⟨_, _, rfl, rfl, ⟨_, _, rfl, rfl, ⟨_, _, rfl, rfl, ⟨_, _, rfl, rfl, rfl⟩⟩⟩⟩⟩⟩ := ep
       have c3 : Kn 55 [(g, 0), (b, 0)] ((29, .tup [.c (.bool true), .c (.int .i64 ay), .agg (K22c2 d)]) :: (K22m3 e x_v10 f at_)) eu := d7 (.tup [.c (.bool true), .c (.int .i64 ay), .agg (K22c2 d)]) rfl
       refine hK _ _ ?_
       refine Rk 1 1 ((tB 30 true) :: (K22m3 e x_v10 f at_)) c3 a4 fun fl b6 => ?_
       refine wf (wp_seq (wC true b6 (fun hb => ?_) (fun hb => ?_)))
       rotate_left
       ·
        cases hb
       refine wp_skip (wp_block (wp_seq (wp_region_from (wl fun K hK => ?_))))
       refine wp_entryP b6 a4 rfl rfl (by decide) (by rfl) (by rfl) aa ak cz fun ev d8 => ?_
       have c4 : Kn 55 [(g, 0), (b, 0)] ((31, .tup [.c (.int .i64 ay), .agg (K22c2 d)]) :: (tB 30 true) :: (K22m3 e x_v10 f at_)) ev := d8 (.tup [.c (.int .i64 ay), .agg (K22c2 d)]) rfl
       refine hK _ _ ?_
       refine Rk 1 1 ((tA 32 (K22c2 d)) :: (K22m3 e x_v10 f at_)) c4 a4 fun fm c5 => ?_
       refine wl fun K hK => ?_
       refine wa [.int .i64 0, .int .i64 0, .int .i64 0, .int .u8 0, .int .i64 0, .int .i64 0] c5 a4 fun ac cg e5 (c6 : Kn 55 [(g, 0), (b, 0), (ac, 0)] ((tP 10 2 0) :: (tA 32 (K22c2 d)) :: (K22m3 e x_v10 f at_)) cg) (ed : Mem (Fr.put ⟨w, h, noX⟩ b (some (.mapIter (some k) q (Array.push ad ag) q))) ah [(g, 0), (b, 0), (ac, 0)] [⟨(K22c1 k u m y), none⟩, ⟨[], none⟩, ⟨[.int .i64 0, .int .i64 0, .int .i64 0, .int .u8 0, .int .i64 0, .int .i64 0], some 99⟩] [⟨e, x_v10.length, f, 3, 1, ab, 0⟩] e5) => hK _ _ ?_
       refine wl fun K hK => ?_
       refine wst 2 0 (.agg (K22c2 d)) (K22c2 d) c6 ed fun e6 c7 (a5 : Mem (Fr.put ⟨w, h, noX⟩ b (some (.mapIter (some k) q (Array.push ad ag) q))) ah [(g, 0), (b, 0), (ac, 0)] [⟨(K22c1 k u m y), none⟩, ⟨[], none⟩, ⟨(K22c2 d), some 99⟩] [⟨e, x_v10.length, f, 3, 1, ab, 0⟩] e6) => hK _ _ ?_
       have c8 : Kn 55 [(g, 0), (b, 0), (ac, 0)] ((tP 10 2 0) :: (K22m3 e x_v10 f at_)) cg := c7.kp
       refine wf (wp_seq (wp_region_from (Rk 0 3 ((tI 35 d.bus) :: (tS 33 e x_v10.length f) :: (tP 10 2 0) :: (K22m3 e x_v10 f at_)) c8 a5 fun fn c9 => ?_)))
       obtain ⟨ct, eb, en, ee⟩ := a5.settle (i := 0) rfl
       have ek : RepS ct e f x_v10 := ⟨_, al.mono eb, en, a5.rowCap (i := 0) rfl⟩
       obtain ⟨x36, ex36, p⟩ := p
       refine wl fun K hK => ?_
       refine wp_callS [.c (.slice e x_v10.length f), .c (.int .i64 d.bus)] _ c9 a5 rfl rfl (by decide) (by rfl) rfl (fun _ _ => by kernel_rfl) (slices_Contains_int_int_ok an ee.has x_v10 ek d.bus ex36) fun gc fc gj cn ff ap => ?_
       obtain rfl := cn
       refine ⟨.one (.c (.bool x36)), rfl, fun ex (db : Kn 55 [(g, 0), (b, 0), (ac, 0)] ((tB 36 x36) :: (tI 35 d.bus) :: (tS 33 e x_v10.length f) :: (tP 10 2 0) :: (K22m3 e x_v10 f at_)) ex) => hK _ _ ?_⟩
       refine Rk 4 2 ((tB 38 (!x36)) :: (tP 10 2 0) :: (K22m3 e x_v10 f at_)) db ap fun ch b7 => ?_
       rcases Bool.eq_false_or_eq_true ((!x36)) with aw | aw
       ·
        rw [aw, cond_true] at p
        have dc : Kn 55 [(g, 0), (b, 0), (ac, 0)] ((tB 38 true) :: (tP 10 2 0) :: (K22m3 e x_v10 f at_)) ch := (b7.setB 38 true (by rfl) aw).kp
        refine Rk 6 4 ((tI 42 at_) :: (tI 41 d.bus) :: (tP 39 0 0) :: (tB 38 true) :: (tP 10 2 0) :: (K22m3 e x_v10 f at_)) dc ap fun fp b8 => ?_
        obtain ⟨x43, ex43, p⟩ := p
        refine wpFrom_loud _ rfl (wantedS_sound b8 (by kernel_rfl)) fun K hK => ?_
        refine wc [.c (.ptr 0 0), .c (.int .i64 d.bus), .c (.int .i64 at_)] b8 ap (pit_book_opens_ok an ap.has m ao d.bus at_ ex43) fun gd au gk co ax a6 => ?_
        replace al := al.mono ax
        replace ar := ar.mono ax
        replace aa := ax _ _ _ aa
        obtain ⟨bz, b0, rfl, fi⟩ := co
        refine ⟨.one (.c (.slice bz x43.length b0)), rfl, fun ey (de : Kn 55 [(g, 0), (b, 0), (ac, 0)] ((tS 43 bz x43.length b0) :: (tI 42 at_) :: (tI 41 d.bus) :: (tP 39 0 0) :: (tB 38 true) :: (tP 10 2 0) :: (K22m3 e x_v10 f at_)) ey) => hK _ _ ?_⟩
        refine Rk 11 3 ((tB 46 (((x43.length : Nat) : Int) == 0)) :: (tP 10 2 0) :: (K22m3 e x_v10 f at_)) de a6 fun fq bj => ?_
        refine wf (wC ((((x43.length : Nat) : Int) == 0)) bj (fun bc => ?_) (fun bc => ?_))
        ·
         rw [bc, cond_true] at p
         refine wp_region_from (Rk 0 3 ((tI 49 d.bus) :: (tS 47 e x_v10.length f) :: (tP 28 1 0) :: (K22m4 at_)) bj a6 fun fr df => ?_)
         refine wl fun K hK => ?_
         refine wS 3 1 [.int .i64 d.bus] df a6 fun az ez e7 (dg : Kn 55 [(g, 0), (b, 0), (ac, 0)] ((tS 50 az 1 1) :: (tI 49 d.bus) :: (tS 47 e x_v10.length f) :: (tP 28 1 0) :: (K22m4 at_)) ez) (cb : Mem (Fr.put ⟨w, h, noX⟩ b (some (.mapIter (some k) q (Array.push ad ag) q))) au [(g, 0), (b, 0), (ac, 0)] [⟨(K22c1 k u m y), none⟩, ⟨[], none⟩, ⟨(K22c2 d), some 99⟩] [⟨e, x_v10.length, f, 3, 1, ab, 0⟩, ⟨az, 1, 1, 3, 1, ([.int .i64 d.bus] : List Value), 0⟩] e7) => ?_
         have bh : Cells au ([d.bus] : List Int) ([.int .i64 d.bus] : List Value) := ⟨_, _, rfl, (rep_int : rep au (d.bus : Int) _), rfl⟩
         refine hK _ _ ?_
         obtain ⟨x51, ex51, p⟩ := p
         obtain ⟨br, d9⟩ := app_some ex51
         refine wl fun K hK => ?_
         refine wp_append 0 8 1 _ (x51.length) _ ([.int .i64 d.bus] : List Value) dg cb rfl rfl (by decide) rfl (by rfl) (by kernel_rfl) (by rfl) (by rfl) (Cells.len bh) (cb.rowCell (i := 1) rfl) bh.one (by rw [br]; simp <;> omega) (by rw [br]; exact d9) (by decide) fun a0 a1 b2 e0 e8 c0 (di : Kn 55 [(g, 0), (b, 0), (ac, 0)] ((tS 51 a0 x51.length a1) :: (tS 50 az 1 1) :: (tI 49 d.bus) :: (tS 47 e x_v10.length f) :: (tP 28 1 0) :: (K22m4 at_)) e0) (cc : Mem (Fr.put ⟨w, h, noX⟩ b (some (.mapIter (some k) q (Array.push ad ag) q))) au [(g, 0), (b, 0), (ac, 0)] [⟨(K22c1 k u m y), none⟩, ⟨[], none⟩, ⟨(K22c2 d), some 99⟩] [⟨a0, x51.length, a1, 3, 1, (ab ++ ([.int .i64 d.bus] : List Value)), b2⟩, ⟨az, 1, 1, 3, 1, ([.int .i64 d.bus] : List Value), 0⟩] e8) => ?_
         have cw : Cells au x51 (ab ++ ([.int .i64 d.bus] : List Value)) := by rw [br]; exact Cells.append al bh
         obtain rfl : b2 = 0 := Nat.le_zero.1 c0
         refine hK _ _ ?_
         refine Rk 5 1 ((tS 8 a0 x51.length a1) :: (tP 28 1 0) :: (K22m4 at_)) di cc fun ft dj => ?_
         refine wf ?_
         exact Exists.intro an ⟨Nat.lt_succ_self _, Exists.intro x51 ⟨ba, a0, a1, (ab ++ ([.int .i64 d.bus] : List Value)), (Array.push ad ag), _, _, rfl, ((dj.keep [28, 8, 6, 1] (by rfl)).cut 2 (by kernel_rfl)), ((cc.cutRw 1).cutPl 2 (by kernel_rfl)), (Heap.le_trans ai ax), cw, ar, p⟩⟩
        ·
         rw [bc, cond_false] at p
         refine wp_skip ?_
         exact Exists.intro an ⟨Nat.lt_succ_self _, Exists.intro x_v10 ⟨ba, e, f, ab, (Array.push ad ag), _, _, rfl, ((bj.keep [28, 8, 6, 1] (by rfl)).cut 2 (by kernel_rfl)), (a6.cutPl 2 (by kernel_rfl)), (Heap.le_trans ai ax), al, ar, p⟩⟩
       ·
        rw [aw, cond_false] at p
        have dk : Kn 55 [(g, 0), (b, 0), (ac, 0)] ((tB 38 false) :: (tP 10 2 0) :: (K22m3 e x_v10 f at_)) ch := (b7.setB 38 false (by rfl) aw).kp
        refine Rk 6 8 ((tB 46 false) :: (tP 10 2 0) :: (K22m3 e x_v10 f at_)) dk ap fun fu b9 => ?_
        refine wf (wC false b9 (fun hb => ?_) (fun hb => ?_))
        ·
         cases hb
        refine wp_skip ?_
        exact Exists.intro an ⟨Nat.lt_succ_self _, Exists.intro x_v10 ⟨ba, e, f, ab, (Array.push ad ag), _, _, rfl, ((b9.keep [28, 8, 6, 1] (by rfl)).cut 2 (by kernel_rfl)), (ap.cutPl 2 (by kernel_rfl)), ai, al, ar, p⟩⟩
    ·
     rintro _ e9 ⟨s, x, z, bb, bs, bt, af, rfl, dl, ef, ec, cv, fb, H⟩
     rw [cm] at H
     replace aa := ec _ _ _ aa
     have cd : Mem ⟨w, h, noX⟩ af [(g, 0), (b, 0)] [⟨(K22c1 k u m y), none⟩, ⟨[], none⟩] [⟨x, s.1.length, z, 3, 1, bb, 0⟩] e9 := Mem.dropX cr ef
     refine wp_seq (wp_region_from (Rk 0 1 [(tS 52 x s.1.length z), (tS 8 x s.1.length z)] dl cd fun fv dm => ?_))
     obtain ⟨ae, ck, H⟩ := H
     obtain ⟨ea, cf⟩ := sortO_some ck
     refine wl fun K hK => ?_
     refine wp_sort Try.sorts 0 dm cd rfl rfl (by decide) (by rfl) (fun _ _ => by kernel_rfl) rfl rfl rfl rfl cv ea fun bv bw (dn : Kn 55 [(g, 0), (b, 0)] [(53, .tup []), (tS 52 x s.1.length z), (tS 8 x s.1.length z)] bv) (eg : Mem ⟨w, h, noX⟩ af [(g, 0), (b, 0)] [⟨(K22c1 k u m y), none⟩, ⟨[], none⟩] [⟨x, s.1.length, z, 3, 1, (List.map (Value.int .i64) (sortI s.1)), 0⟩] bw) => ?_
     have bi : Cells af ae (List.map (Value.int .i64) (sortI s.1)) := by rw [cf]; exact cells_ofInts _ _
     have ce : s.1.length = ae.length := by rw [cf, sortI_len]
     have dp : Kn 55 [(g, 0), (b, 0)] [(53, .tup []), (52, .one (.c (.slice x ae.length z))), (8, .one (.c (.slice x ae.length z)))] bv := by rw [← ce]; exact dn
     have bp : Mem ⟨w, h, noX⟩ af [(g, 0), (b, 0)] [⟨[.map (some k), .slice u m.v.numbers.length y], none⟩, ⟨[], none⟩] [⟨x, ae.length, z, 3, 1, (List.map (Value.int .i64) (sortI s.1)), 0⟩] bw := by rw [← ce]; exact eg
     refine hK _ _ ?_
     have dr : Kn 55 [(g, 0), (b, 0)] [(tS 8 x ae.length z)] bv := dp.kp
     refine wf (wp_seq (wp_region_from (Rk 0 3 [(tI 5 0), (tS 4 x ae.length z)] dr bp fun fx ds => ?_)))
     refine wf (wp_ret ?_)
     obtain ⟨b4, ca, eo, bq⟩ := bp.settle (i := 0) rfl
     replace bi := bi.mono ca
     replace aa := ca _ _ _ aa
     replace bq : Mem ⟨w, h, noX⟩ b4 [(g, 0), (b, 0)] [⟨(K22c1 k u m y), none⟩, ⟨[], none⟩] [⟨x, ae.length, z, 3, 1, (List.map (Value.int .i64) (sortI s.1)), ((List.map (Value.int .i64) (sortI s.1)) : List Value).length⟩] bw := bq
     have el : RepS b4 x z ae := ⟨_, bi, eo, bp.rowCap (i := 0) rfl⟩
     exact rt (.tup [.c (.slice x ae.length z), .c (.int .i64 0)]) ds bq ⟨_, H, ⟨_, _, rfl, ⟨_, _, rfl, el⟩, rfl⟩⟩
theorem pit_FitL_ok (n : Nat) {h : Heap} {w : World} (hh : Has h w) (l : List Card) {a_l : Option Addr} {c_l : Nat} (hr_l : RepS h a_l c_l l) (at_ : Int) {r : (List Int) × Int} (H : pit_FitL n l at_ = some r) :
    Calls Try.prog 22 #[.slice a_l l.length c_l, .int .i64 at_] w (Ret (fun h v => ∃ v0 v1, v = .tuple #[v0, v1] ∧ (∃ a c, v0 = .slice a r.1.length c ∧ RepS h a c r.1) ∧ (v1 = .int .i64 r.2)) h w) :=
  (pit_Fit_ok n hh l hr_l at_ (pit_Fit_of H)).mono fun en w' ⟨v, h', h1, h3, h4, h5, h2⟩ => ⟨v, h', h1, h3, h4, h5, by
    obtain ⟨q, rfl, hv⟩ := h2
    exact hv⟩
abbrev K37c1 (u : Nat) (e : Option Addr) (d : Bx Book) (f : Nat) : List SC := [.map (some u), .slice e d.v.numbers.length f]
abbrev K37e2 (p q s : Nat) (x_v11 : Int) (x z : Nat) : Env := [(p, 0), (q, s + (x_v11 : Int).toNat * 1), (x, 0), (z, 0)]
abbrev K37c3 : List SC := [.int .i64 0, .int .i64 0, .int .i64 0, .int .u8 0, .int .i64 0, .int .i64 0]
abbrev K37c4 (x34 : (Card × Bool)) : List SC := [.int .i64 x34.1.bus, .int .i64 x34.1.number, .int .i64 x34.1.minute, .int .u8 x34.1.kind.n, .int .i64 x34.1.part, .int .i64 x34.1.sg]
abbrev K37c5 (x45 : Card × Bool) : List SC := [.int .i64 x45.1.bus, .int .i64 x45.1.number, .int .i64 x45.1.minute, .int .u8 x45.1.kind.n, .int .i64 x45.1.part, .int .i64 x45.1.sg]
abbrev K37p6 (u : Nat) (e : Option Addr) (d : Bx Book) (f : Nat) (x27 : Int) (x34 : (Card × Bool)) : List Plc := [⟨(K37c1 u e d f), none⟩, ⟨[.int .i64 x27], none⟩, ⟨(K37c4 x34), some 99⟩, ⟨K37c3, some 99⟩]
abbrev K37p7 (u : Nat) (e : Option Addr) (d : Bx Book) (f : Nat) (x27 : Int) (x34 : (Card × Bool)) (x45 : Card × Bool) : List Plc := [⟨(K37c1 u e d f), none⟩, ⟨[.int .i64 x27], none⟩, ⟨(K37c4 x34), some 99⟩, ⟨(K37c5 x45), some 99⟩]
abbrev K37m8 (x_v11 : Int) (d : Bx Book) (e : Option Addr) (f : Nat) (g : Option Addr) (x_v10 : List Int) (m : Nat) : TM := [(tI 25 x_v11), (tI 24 ((d.v.numbers.length : Nat) : Int)), (tS 23 e d.v.numbers.length f), (tS 6 g x_v10.length m), (tP 4 0 0)]
abbrev K37m9 (d : Bx Book) (e : Option Addr) (f : Nat) : TM := [(tI 24 ((d.v.numbers.length : Nat) : Int)), (tS 23 e d.v.numbers.length f), (tP 4 0 0)]
abbrev K37m10 (x27 : Int) (g : Option Addr) (x_v10 : List Int) (m : Nat) (x_v11 : Int) (d : Bx Book) (e : Option Addr) (f : Nat) : TM := (tI 62 x27) :: (tS 61 g x_v10.length m) :: (tI 25 x_v11) :: (K37m9 d e f)
abbrev K37m11 (x27 x_v11 : Int) (d : Bx Book) (e : Option Addr) (f : Nat) (g : Option Addr) (x_v10 : List Int) (m : Nat) : TM := (tP 9 2 0) :: (tI 8 x27) :: (K37m8 x_v11 d e f g x_v10 m)
set_option maxRecDepth 100000 in
set_option maxHeartbeats 4000000 in
theorem pit_Void_ok (n : Nat) {h : Heap} {w : World} (hh : Has h w) (l : List Card) {a_l : Option Addr} {c_l : Nat} (hr_l : RepS h a_l c_l l) {r : (List Int) × Int} (H : pit_Void n l = some r) :
  Calls Try.prog 37 #[.slice a_l l.length c_l] w (Ret (fun h v => ∃ v0 v1, v = .tuple #[v0, v1] ∧ (∃ a c, v0 = .slice a r.1.length c ∧ RepS h a c r.1) ∧ (v1 = .int .i64 r.2)) h w) := by
 refine enter 67 [.c (.slice a_l l.length c_l)] Try.func37 rfl rfl rfl rfl fun t hk => ?_
 have hm := Mem.begin h w hh
 unfold pit_Void at H
 refine wp_seq (wp_region_from (Rk 0 2 [(tS 0 a_l l.length c_l)] hk hm fun gj d9 => ?_))
 refine wf (wp_scope_straight (wp_seq (wp_region_from (Rk 0 1 [(tS 13 a_l l.length c_l)] d9 hm fun ha et => ?_))))
 obtain ⟨x14, ex14, H⟩ := bnd H
 refine wl fun K hK => ?_
 refine wp_callP [.c (.slice a_l l.length c_l)] _ et hm rfl rfl (by decide) (by rfl) rfl (fun _ _ => by kernel_rfl) (pit_read_ok n hm.has l hr_l ex14) fun ht a5 c4 be gi aw => ?_
 rcases bi : x14.1 with _ | d
 ·
  rw [bi, ptrCase_none] at H
  rw [bi] at be
  obtain ⟨_, _, rfl, rfl, rfl⟩ := be
  refine .inl ⟨.tup [.c (.nilptr), .c (.int .i64 x14.2)], rfl, fun fl (d0 : Kn 67 [] [(14, .tup [.c (.nilptr), .c (.int .i64 x14.2)]), (tS 13 a_l l.length c_l)] fl) => hK _ _ ?_⟩
  refine Rk 2 5 [(tI 5 x14.2), (4, .one (.c (.nilptr)))] d0 aw fun gs d5 => ?_
  refine wf (wp_seq (wp_seq (wp_region_from (Rk 0 2 [(tB 18 (x14.2 != 0)), (tI 5 x14.2), (4, .one (.c (.nilptr)))] d5 aw fun gw bt => ?_))))
  refine wf (wC ((x14.2 != 0)) bt (fun bk => ?_) (fun bk => ?_))
  ·
   rw [bk, cond_true] at H
   refine wp_seq (wp_region_from (Rk 0 3 [(tI 3 x14.2), (tS 2 none 0 0)] bt aw fun g2 ef => ?_))
   refine wf (wp_ret ?_)
   obtain rfl := Option.some.inj H
   exact rt (.tup [.c (.slice none 0 0), .c (.int .i64 x14.2)]) ef aw ⟨_, _, rfl, ⟨_, _, rfl, RepS.nil⟩, rfl⟩
  ·
   rw [bk, cond_false] at H
   refine wp_skip (wp_seq (wp_region_from (Rk 0 1 [(tS 6 none 0 0), (4, .one (.c (.nilptr)))] bt aw fun g6 gh => ?_)))
   refine wf (wp_seq (wp_label (wp_seq (wp_seq (wp_region_from ?_)))))
   cases H
 ·
  rw [bi, ptrCase_some] at H
  rw [bi] at be
  obtain ⟨_, _, rfl, ⟨p, rfl, ap⟩, rfl⟩ := be
  obtain ⟨_, ff, de⟩ := id ap
  obtain ⟨_, _, rfl, ⟨u, gf, gc, rfl, ab, ah⟩, ⟨e, f, rfl, av⟩⟩ := ff
  have au : Mem ⟨w, h, noX⟩ a5 [(p, 0)] [⟨[.map (some u), .slice e d.v.numbers.length f], none⟩] [] c4 := aw.addPlc (o := 0) (cs := [.map (some u), .slice e d.v.numbers.length f]) (fun j c hj => by rw [Nat.zero_add]; exact de j _ (map_get hj)) rfl (by kernel_rfl) (by kernel_rfl)
  refine .inr ⟨p, .tup [.c (.ptr 0 0), .c (.int .i64 x14.2)], by kernel_rfl, rfl, fun fx (eu : Kn 67 [(p, 0)] [(14, .tup [.c (.ptr 0 0), .c (.int .i64 x14.2)]), (tS 13 a_l l.length c_l)] fx) => hK _ _ ?_⟩
  refine Rk 2 5 [(tI 5 x14.2), (tP 4 0 0)] eu au fun hc ev => ?_
  refine wf (wp_seq (wp_seq (wp_region_from (Rk 0 2 [(tB 18 (x14.2 != 0)), (tI 5 x14.2), (tP 4 0 0)] ev au fun hd bv => ?_))))
  refine wf (wC ((x14.2 != 0)) bv (fun bm => ?_) (fun bm => ?_))
  ·
   rw [bm, cond_true] at H
   refine wp_seq (wp_region_from (Rk 0 3 [(tI 3 x14.2), (tS 2 none 0 0)] bv au fun he ew => ?_))
   refine wf (wp_ret ?_)
   obtain rfl := Option.some.inj H
   exact rt (.tup [.c (.slice none 0 0), .c (.int .i64 x14.2)]) ew au ⟨_, _, rfl, ⟨_, _, rfl, RepS.nil⟩, rfl⟩
  ·
   rw [bm, cond_false] at H
   refine wp_skip (wp_seq (wp_region_from (Rk 0 1 [(tS 6 none 0 0), (tP 4 0 0)] bv au fun hf ex => ?_)))
   refine wf (wp_seq (wp_label (wp_seq (wp_seq (wp_region_from (Rk 0 6 [(tI 25 0), (tI 24 ((d.v.numbers.length : Nat) : Int)), (tS 23 e d.v.numbers.length f), (tS 6 none 0 0), (tP 4 0 0)] ex au fun hg ey => ?_))))))
   refine wf ?_
   have fa : Mem ⟨w, h, noX⟩ a5 [(p, 0)] [⟨(K37c1 u e d f), none⟩] [⟨none, 0, 0, 3, 1, [], 0⟩] c4 := au.nilRow 3 1
   have df : Cells a5 ([] : List Int) [] := Cells.nil
   obtain ⟨al, ce, H⟩ := bnd H
   refine wp_mid' (fun a' w' => ∃ (am : Option Addr) (an : Nat) (a9 : List Value) (cc : Array Value) (bf : Heap), a' = ⟨cc, []⟩ ∧ Kn 67 [(p, 0)] [(tS 6 am al.length an)] cc ∧ Mem ⟨w, h, noX⟩ bf [(p, 0)] [⟨(K37c1 u e d f), none⟩] [⟨am, al.length, an, 3, 1, a9, 0⟩] w' ∧ Heap.le a5 bf ∧ Cells bf al a9) ?_ ?_
   ·
    refine wp_block ?_
    refine wp_loop_n (fun fi a' w' => ∃ (x_v10 : List Int) (x_v11 : Int) (g : Option Addr) (m : Nat) (aa : List Value) (cd : Array Value) (ad : Heap), a' = ⟨cd, []⟩ ∧ Kn 67 [(p, 0)] (K37m8 x_v11 d e f g x_v10 m) cd ∧ Mem ⟨w, h, noX⟩ ad [(p, 0)] [⟨(K37c1 u e d f), none⟩] [⟨g, x_v10.length, m, 3, 1, aa, 0⟩] w' ∧ Heap.le a5 ad ∧ Cells ad x_v10 aa ∧ pit_Void_l1 fi l d x_v10 x_v11 = some al) n ?_ ?_
    ·
     exact Exists.intro ([] : List Int) ⟨0, none, 0, ([]), _, _, rfl, ey.kp, fa, (Heap.le_refl _), df, ce⟩
    ·
     rintro ae _ gb ⟨x_v10, x_v11, g, m, aa, cd, ad, rfl, ez, b7, ag, ac, y⟩
     clear ce
     obtain _ | ae := ae
     ·
      rw [pit_Void_l1] at y; cases y
     rw [pit_Void_l1] at y
     replace ah := ah.mono ag
     replace av := av.mono ag
     replace ap := ap.mono ag
     replace ab := ag _ _ _ ab
     refine wp_seq (wp_region_from (Rk 0 1 ((tB 26 (decide (x_v11 < ((d.v.numbers.length : Nat) : Int)))) :: (K37m8 x_v11 d e f g x_v10 m)) ez b7 fun hi bw => ?_))
     refine wf (wp_seq (wC (decide (x_v11 < ((d.v.numbers.length : Nat) : Int))) bw (fun bn => ?_) (fun bn => ?_)))
     ·
      rw [bn, cond_true] at y
      refine wp_skip (wp_seq (wp_block (wp_seq (wp_region_from ?_))))
      obtain ⟨x27, ex27, y⟩ := bnd y
      obtain ⟨fb, fc, fh⟩ := idx_some ex27
      obtain ⟨q, s, gd, da, fg, dg⟩ := av.get (by decide) fh
      obtain rfl := fg
      have bh : Mem ⟨w, h, noX⟩ ad [(p, 0), (q, s + (x_v11 : Int).toNat * 1)] [⟨(K37c1 u e d f), none⟩, ⟨[.int .i64 x27], none⟩] [⟨g, x_v10.length, m, 3, 1, aa, 0⟩] gb := b7.addPlc (cs := [.int .i64 x27]) (fun j c hj => dg j _ (map_get hj)) rfl (by kernel_rfl) (by kernel_rfl)
      refine R_index 0 (x_v11) rfl rfl (rfl) rfl (by decide) bw (by rfl) (by rfl) (by rfl) da (by rfl) fb fc (by kernel_rfl) fun fy (e0 : Kn 67 [(p, 0), (q, s + (x_v11 : Int).toNat * 1)] ((tP 27 1 0) :: (tB 26 (decide (x_v11 < ((d.v.numbers.length : Nat) : Int)))) :: (K37m8 x_v11 d e f g x_v10 m)) fy) => ?_
      refine Rk 1 2 ((tI 8 x27) :: (K37m8 x_v11 d e f g x_v10 m)) e0 bh fun hl e1 => ?_
      refine wf (wp_seq (wp_region_from (Rk 0 5 ((tI 33 x27) :: (32, .one (.c (.map (some u)))) :: (tI 8 x27) :: (K37m8 x_v11 d e f g x_v10 m)) e1 bh fun hn e2 => ?_)))
      obtain ⟨x34, ex34, y⟩ := bnd y
      refine wl fun K hK => ?_
      refine wp_lookup (KT := 3) (E := 99) (k := (x27 : Int)) ((Card.mk 0 0 0 (IK.mk 0) 0 0) : Card) (.c (.int .i64 x27)) e2 rfl rfl (by decide) (by rfl) (by rfl) (by kernel_rfl) (KL.int (by kernel_rfl)) (bh.has.map ab) ah rfl (by kernel_rfl) ⟨_, rfl, ((rep_pair rep_int (rep_pair rep_int (rep_pair rep_int (rep_pair rep_ik (rep_pair rep_int rep_int))))) : rep ad ((Card.mk 0 0 0 (IK.mk 0) 0 0) : Card) _)⟩ fun hu cy => ?_
      rw [Option.some.inj ex34] at cy ⊢
      obtain ⟨_, rfl, ⟨_, _, rfl, rfl, ⟨_, _, rfl, rfl, ⟨_, _, rfl, rfl, ⟨_, _, rfl, rfl, ⟨_, _, rfl, rfl, rfl⟩⟩⟩⟩⟩⟩ := cy
      refine ⟨.one (.agg (K37c4 x34)), rfl, fun fz (e3 : Kn 67 [(p, 0), (q, s + (x_v11 : Int).toNat * 1)] ((tA 34 (K37c4 x34)) :: (tI 33 x27) :: (32, .one (.c (.map (some u)))) :: (tI 8 x27) :: (K37m8 x_v11 d e f g x_v10 m)) fz) => hK _ _ ?_⟩
      refine wl fun K hK => ?_
      refine wa K37c3 e3 bh fun x c0 f0 (dk : Kn 67 [(p, 0), (q, s + (x_v11 : Int).toNat * 1), (x, 0)] ((tP 9 2 0) :: (tA 34 (K37c4 x34)) :: (tI 33 x27) :: (32, .one (.c (.map (some u)))) :: (tI 8 x27) :: (K37m8 x_v11 d e f g x_v10 m)) c0) (e8 : Mem ⟨w, h, noX⟩ ad [(p, 0), (q, s + (x_v11 : Int).toNat * 1), (x, 0)] [⟨(K37c1 u e d f), none⟩, ⟨[.int .i64 x27], none⟩, ⟨K37c3, some 99⟩] [⟨g, x_v10.length, m, 3, 1, aa, 0⟩] f0) => hK _ _ ?_
      refine wl fun K hK => ?_
      refine wst 2 0 (.agg (K37c4 x34)) (K37c4 x34) dk e8 fun c3 dl (aq : Mem ⟨w, h, noX⟩ ad [(p, 0), (q, s + (x_v11 : Int).toNat * 1), (x, 0)] [⟨(K37c1 u e d f), none⟩, ⟨[.int .i64 x27], none⟩, ⟨(K37c4 x34), some 99⟩] [⟨g, x_v10.length, m, 3, 1, aa, 0⟩] c3) => hK _ _ ?_
      have dm : Kn 67 [(p, 0), (q, s + (x_v11 : Int).toNat * 1), (x, 0)] (K37m11 x27 x_v11 d e f g x_v10 m) c0 := dl.kp
      refine wf (wp_seq (wp_seq (wp_region_from (Rk 0 3 ((tB 37 (x34.1.kind.n != 2)) :: (K37m11 x27 x_v11 d e f g x_v10 m)) dm aq fun gk bs => ?_))))
      refine wf (wC ((x34.1.kind.n != 2)) bs (fun bj => ?_) (fun bj => ?_))
      ·
       rw [bj, cond_true] at y
       refine wp_exit (wp_region_from (Rk 0 2 [(tI 25 (IntKind.i64.wrap (x_v11 + 1))), (tI 24 ((d.v.numbers.length : Nat) : Int)), (tS 23 e d.v.numbers.length f), (tS 6 g x_v10.length m), (tP 4 0 0)] bs aq fun gl dp => ?_))
       refine wf ?_
       exact Exists.intro ae ⟨Nat.lt_succ_self _, Exists.intro x_v10 ⟨(IntKind.i64.wrap (x_v11 + 1)), g, m, aa, _, _, rfl, ((dp.keep [25, 24, 23, 6, 4] (by rfl)).cut 1 (by kernel_rfl)), (aq.cutPl 1 (by kernel_rfl)), ag, ac, y⟩⟩
      ·
       rw [bj, cond_false] at y
       refine wp_skip (wp_seq (wp_region_G (by kernel_rfl) ?_))
       replace aq := aq.drew
       refine wpG_of_D [] [(p, 0), (q, s + (x_v11 : Int).toNat * 1), (x, 0)] [⟨(K37c1 u e d f), none⟩, ⟨[.int .i64 x27], none⟩, ⟨(K37c4 x34), some 99⟩] ?_
       refine Dr [0, 1, 2, 3, 4, 5] (dn 5) ((tI 44 x34.1.sg) :: (42, .one (.c (.map (some u)))) :: (K37m11 x27 x_v11 d e f g x_v10 m)) bs aq fun fj dq => ?_
       obtain ⟨x45, ex45, y⟩ := bnd y
       have cj : Kn 67 [(p, 0), (q, s + (x_v11 : Int).toNat * 1), (x, 0), (0, 0)] ((tI 44 x34.1.sg) :: (42, .one (.c (.map (some u)))) :: (K37m11 x27 x_v11 d e f g x_v10 m)) fj := dq.push (0, 0) (by kernel_rfl)
       have bx : Mem ⟨w, h, noX⟩ ad [(p, 0), (q, s + (x_v11 : Int).toNat * 1), (x, 0), (0, 0)] [⟨(K37c1 u e d f), none⟩, ⟨[.int .i64 x27], none⟩, ⟨(K37c4 x34), some 99⟩, ⟨[], none⟩] [⟨g, x_v10.length, m, 3, 1, aa, 0⟩] (World.drew c3) := aq.addPlc (b := 0) (o := 0) (cs := []) (fun j c hj => by simp at hj) rfl (by kernel_rfl) (by kernel_rfl)
       refine D_ext (e' := [(p, 0), (q, s + (x_v11 : Int).toNat * 1), (x, 0), (0, 0)]) (pl' := [⟨(K37c1 u e d f), none⟩, ⟨[.int .i64 x27], none⟩, ⟨(K37c4 x34), some 99⟩, ⟨[], none⟩]) (fun _ hp => hp.pop (Nat.le_of_eq rfl) (by kernel_rfl)) ?_
       refine D_share (fun W => ∀ (z : Nat), ∀ a' w', (∃ (cb : Array Value) (af : Heap), a' = ⟨cb, []⟩ ∧ Kn 67 (K37e2 p q s x_v11 x z) ((tP 10 3 0) :: (tB 47 x45.2) :: (tA 46 (K37c5 x45)) :: (K37m11 x27 x_v11 d e f g x_v10 m)) cb ∧ Mem ⟨w, h, noX⟩ af (K37e2 p q s x_v11 x z) (K37p6 u e d f x27 x34) [⟨g, x_v10.length, m, 3, 1, aa, 0⟩] w' ∧ Heap.le ad af) → W (K37e2 p q s x_v11 x z) (K37p6 u e d f x27 x34) [9, 8, 7, 6, 10, 5, 4, 3, 2, 1, 0] a' w') ?_ (fun cz => ?_)
       ·
        intro z
        rintro _ hv ⟨cb, af, rfl, dr, e9, ai⟩
        replace ah := ah.mono ai
        replace av := av.mono ai
        replace ap := ap.mono ai
        replace ab := ai _ _ _ ab
        replace ac := ac.mono ai
        refine D_sync 11 rfl (by kernel_rfl) (by decide) (rfl) (by kernel_rfl) fun K hK => ?_
        refine wst 3 0 (.agg (K37c5 x45)) (K37c5 x45) dr e9 fun f1 ds (ak : Mem ⟨w, h, noX⟩ af (K37e2 p q s x_v11 x z) (K37p7 u e d f x27 x34 x45) [⟨g, x_v10.length, m, 3, 1, aa, 0⟩] f1) => hK _ _ ?_
        refine wpG_of_D [] (K37e2 p q s x_v11 x z) (K37p7 u e d f x27 x34 x45) ?_
        refine Dr [12] [12, 11, 9, 8, 7, 6, 10, 5, 4, 3, 2, 1, 0] ((tB 11 x45.2) :: (tP 10 3 0) :: (K37m11 x27 x_v11 d e f g x_v10 m)) ds ak fun gm dt => ?_
        refine wpD_end (by kernel_rfl) (wp_seq (wp_region_from (Rk 0 3 ((tB 50 (!x45.2)) :: (tP 10 3 0) :: (K37m11 x27 x_v11 d e f g x_v10 m)) dt ak fun c1 ck => ?_)))
        rcases Bool.eq_false_or_eq_true ((!x45.2)) with a6 | a6
        ·
         rw [a6, cond_true] at y
         have du : Kn 67 (K37e2 p q s x_v11 x z) ((tB 50 true) :: (tP 10 3 0) :: (K37m11 x27 x_v11 d e f g x_v10 m)) c1 := (ck.setB 50 true (by rfl) a6).kp
         refine Rk 3 10 ((tB 60 true) :: (tI 8 x27) :: (K37m8 x_v11 d e f g x_v10 m)) du ak fun gn cl => ?_
         refine wf (wC true cl (fun hb => ?_) (fun hb => ?_))
         rotate_left
         ·
          cases hb
         refine wp_region_from (Rk 0 2 (K37m10 x27 g x_v10 m x_v11 d e f) cl ak fun go dv => ?_)
         refine wl fun K hK => ?_
         refine wS 3 1 [.int .i64 x27] dv ak fun ba fk f2 (dw : Kn 67 (K37e2 p q s x_v11 x z) ((tS 63 ba 1 1) :: (K37m10 x27 g x_v10 m x_v11 d e f)) fk) (cu : Mem ⟨w, h, noX⟩ af (K37e2 p q s x_v11 x z) (K37p7 u e d f x27 x34 x45) [⟨g, x_v10.length, m, 3, 1, aa, 0⟩, ⟨ba, 1, 1, 3, 1, ([.int .i64 x27] : List Value), 0⟩] f2) => ?_
         have bo : Cells af ([x27] : List Int) ([.int .i64 x27] : List Value) := ⟨_, _, rfl, (rep_int : rep af (x27 : Int) _), rfl⟩
         refine hK _ _ ?_
         obtain ⟨x64, ex64, y⟩ := bnd y
         obtain ⟨b8, e4⟩ := app_some ex64
         refine wl fun K hK => ?_
         refine wp_append 0 8 1 _ (x64.length) _ ([.int .i64 x27] : List Value) dw cu rfl rfl (by decide) rfl (by rfl) (by kernel_rfl) (by rfl) (by rfl) (Cells.len bo) (cu.rowCell (i := 1) rfl) bo.one (by rw [b8]; simp <;> omega) (by rw [b8]; exact e4) (by decide) fun ax a1 cf fm f3 dh (dx : Kn 67 (K37e2 p q s x_v11 x z) ((tS 64 ax x64.length a1) :: (tS 63 ba 1 1) :: (K37m10 x27 g x_v10 m x_v11 d e f)) fm) (bz : Mem ⟨w, h, noX⟩ af (K37e2 p q s x_v11 x z) (K37p7 u e d f x27 x34 x45) [⟨ax, x64.length, a1, 3, 1, (aa ++ ([.int .i64 x27] : List Value)), cf⟩, ⟨ba, 1, 1, 3, 1, ([.int .i64 x27] : List Value), 0⟩] f3) => ?_
         have db : Cells af x64 (aa ++ ([.int .i64 x27] : List Value)) := by rw [b8]; exact Cells.append ac bo
         obtain rfl : cf = 0 := Nat.le_zero.1 dh
         refine hK _ _ ?_
         refine Rk 4 1 ((tS 6 ax x64.length a1) :: (tI 25 x_v11) :: (K37m9 d e f)) dx bz fun gp dy => ?_
         refine wf (wp_region_from (Rk 0 2 ((tI 25 (IntKind.i64.wrap (x_v11 + 1))) :: (tS 6 ax x64.length a1) :: (K37m9 d e f)) dy bz fun gq dz => ?_))
         refine wf ?_
         exact Exists.intro ae ⟨Nat.lt_succ_self _, Exists.intro x64 ⟨(IntKind.i64.wrap (x_v11 + 1)), ax, a1, (aa ++ ([.int .i64 x27] : List Value)), _, _, rfl, ((dz.keep [25, 24, 23, 6, 4] (by rfl)).cut 1 (by kernel_rfl)), ((bz.cutRw 1).cutPl 1 (by kernel_rfl)), (Heap.le_trans ag ai), db, y⟩⟩
        ·
         rw [a6, cond_false] at y
         have d1 : Kn 67 (K37e2 p q s x_v11 x z) ((tB 50 false) :: (tP 10 3 0) :: (K37m11 x27 x_v11 d e f g x_v10 m)) c1 := (ck.setB 50 false (by rfl) a6).kp
         refine Rk 3 1 ((tA 51 (K37c5 x45)) :: (tB 50 false) :: (tP 10 3 0) :: (K37m11 x27 x_v11 d e f g x_v10 m)) d1 ak fun gr cm => ?_
         obtain ⟨x52, ex52, y⟩ := bnd y
         refine wpFrom_loud _ rfl (wantedS_sound cm (by kernel_rfl)) fun K hK => ?_
         refine wc [.agg (K37c5 x45)] cm ak (pit_Card_defect_ok ae ak.has x45.1 ((rep_pair rep_int (rep_pair rep_int (rep_pair rep_int (rep_pair rep_ik (rep_pair rep_int rep_int))))) : rep af x45.1 _) ex52) fun ho ao hw c5 aj ar => ?_
         replace ah := ah.mono aj
         replace av := av.mono aj
         replace ap := ap.mono aj
         replace ac := ac.mono aj
         replace ab := aj _ _ _ ab
         obtain rfl := c5
         refine ⟨.one (.c (.bool x52)), rfl, fun fn (d2 : Kn 67 (K37e2 p q s x_v11 x z) ((tB 52 x52) :: (tA 51 (K37c5 x45)) :: (tB 50 false) :: (tP 10 3 0) :: (K37m11 x27 x_v11 d e f g x_v10 m)) fn) => hK _ _ ?_⟩
         refine Rk 5 3 ((tB 55 (!x52)) :: (tP 10 3 0) :: (K37m11 x27 x_v11 d e f g x_v10 m)) d2 ar fun c2 cn => ?_
         rcases Bool.eq_false_or_eq_true ((!x52)) with a7 | a7
         ·
          rw [a7, cond_true] at y
          have d3 : Kn 67 (K37e2 p q s x_v11 x z) ((tB 55 true) :: (tP 10 3 0) :: (K37m11 x27 x_v11 d e f g x_v10 m)) c2 := (cn.setB 55 true (by rfl) a7).kp
          refine Rk 8 5 ((tB 60 true) :: (tI 8 x27) :: (K37m8 x_v11 d e f g x_v10 m)) d3 ar fun gu co => ?_
          refine wf (wC true co (fun hb => ?_) (fun hb => ?_))
          rotate_left
          ·
           cases hb
          refine wp_region_from (Rk 0 2 (K37m10 x27 g x_v10 m x_v11 d e f) co ar fun gv d4 => ?_)
          refine wl fun K hK => ?_
          refine wS 3 1 [.int .i64 x27] d4 ar fun bb fo f4 (d6 : Kn 67 (K37e2 p q s x_v11 x z) ((tS 63 bb 1 1) :: (K37m10 x27 g x_v10 m x_v11 d e f)) fo) (cv : Mem ⟨w, h, noX⟩ ao (K37e2 p q s x_v11 x z) (K37p7 u e d f x27 x34 x45) [⟨g, x_v10.length, m, 3, 1, aa, 0⟩, ⟨bb, 1, 1, 3, 1, ([.int .i64 x27] : List Value), 0⟩] f4) => ?_
          have bp : Cells ao ([x27] : List Int) ([.int .i64 x27] : List Value) := ⟨_, _, rfl, (rep_int : rep ao (x27 : Int) _), rfl⟩
          refine hK _ _ ?_
          obtain ⟨x64, ex64, y⟩ := bnd y
          obtain ⟨b9, e5⟩ := app_some ex64
          refine wl fun K hK => ?_
          refine wp_append 0 8 1 _ (x64.length) _ ([.int .i64 x27] : List Value) d6 cv rfl rfl (by decide) rfl (by rfl) (by kernel_rfl) (by rfl) (by rfl) (Cells.len bp) (cv.rowCell (i := 1) rfl) bp.one (by rw [b9]; simp <;> omega) (by rw [b9]; exact e5) (by decide) fun ay a2 cg fp f5 di (d7 : Kn 67 (K37e2 p q s x_v11 x z) ((tS 64 ay x64.length a2) :: (tS 63 bb 1 1) :: (K37m10 x27 g x_v10 m x_v11 d e f)) fp) (b0 : Mem ⟨w, h, noX⟩ ao (K37e2 p q s x_v11 x z) (K37p7 u e d f x27 x34 x45) [⟨ay, x64.length, a2, 3, 1, (aa ++ ([.int .i64 x27] : List Value)), cg⟩, ⟨bb, 1, 1, 3, 1, ([.int .i64 x27] : List Value), 0⟩] f5) => ?_
          have dc : Cells ao x64 (aa ++ ([.int .i64 x27] : List Value)) := by rw [b9]; exact Cells.append ac bp
          obtain rfl : cg = 0 := Nat.le_zero.1 di
          refine hK _ _ ?_
          refine Rk 4 1 ((tS 6 ay x64.length a2) :: (tI 25 x_v11) :: (K37m9 d e f)) d7 b0 fun gx d8 => ?_
          refine wf (wp_region_from (Rk 0 2 ((tI 25 (IntKind.i64.wrap (x_v11 + 1))) :: (tS 6 ay x64.length a2) :: (K37m9 d e f)) d8 b0 fun gy ea => ?_))
          refine wf ?_
          exact Exists.intro ae ⟨Nat.lt_succ_self _, Exists.intro x64 ⟨(IntKind.i64.wrap (x_v11 + 1)), ay, a2, (aa ++ ([.int .i64 x27] : List Value)), _, _, rfl, ((ea.keep [25, 24, 23, 6, 4] (by rfl)).cut 1 (by kernel_rfl)), ((b0.cutRw 1).cutPl 1 (by kernel_rfl)), (Heap.le_trans ag (Heap.le_trans ai aj)), dc, y⟩⟩
         ·
          rw [a7, cond_false] at y
          have eb : Kn 67 (K37e2 p q s x_v11 x z) ((tB 55 false) :: (tP 10 3 0) :: (K37m11 x27 x_v11 d e f g x_v10 m)) c2 := (cn.setB 55 false (by rfl) a7).kp
          refine Rk 8 2 ((tA 57 (K37c5 x45)) :: (tA 56 (K37c4 x34)) :: (tB 55 false) :: (tI 8 x27) :: (K37m8 x_v11 d e f g x_v10 m)) eb ar fun gz cp => ?_
          obtain ⟨x58, ex58, y⟩ := bnd y
          refine wpFrom_loud _ rfl (wantedS_sound cp (by kernel_rfl)) fun K hK => ?_
          refine wc [.agg (K37c4 x34), .agg (K37c5 x45)] cp ar (pit_Card_mended_ok ae ar.has x34.1 ((rep_pair rep_int (rep_pair rep_int (rep_pair rep_int (rep_pair rep_ik (rep_pair rep_int rep_int))))) : rep ao x34.1 _) x45.1 ((rep_pair rep_int (rep_pair rep_int (rep_pair rep_int (rep_pair rep_ik (rep_pair rep_int rep_int))))) : rep ao x45.1 _) ex58) fun hq a4 hx c6 bg a8 => ?_
          replace ac := ac.mono bg
          replace ab := bg _ _ _ ab
          obtain rfl := c6
          refine ⟨.one (.c (.bool x58)), rfl, fun fq (ec : Kn 67 (K37e2 p q s x_v11 x z) ((tB 58 x58) :: (tA 57 (K37c5 x45)) :: (tA 56 (K37c4 x34)) :: (tB 55 false) :: (tI 8 x27) :: (K37m8 x_v11 d e f g x_v10 m)) fq) => hK _ _ ?_⟩
          refine Rk 11 2 ((tB 60 (!x58)) :: (tI 8 x27) :: (K37m8 x_v11 d e f g x_v10 m)) ec a8 fun g0 bu => ?_
          refine wf (wC ((!x58)) bu (fun bl => ?_) (fun bl => ?_))
          ·
           rw [bl, cond_true] at y
           refine wp_region_from (Rk 0 2 (K37m10 x27 g x_v10 m x_v11 d e f) bu a8 fun g1 ed => ?_)
           refine wl fun K hK => ?_
           refine wS 3 1 [.int .i64 x27] ed a8 fun bc fr f6 (ee : Kn 67 (K37e2 p q s x_v11 x z) ((tS 63 bc 1 1) :: (K37m10 x27 g x_v10 m x_v11 d e f)) fr) (cw : Mem ⟨w, h, noX⟩ a4 (K37e2 p q s x_v11 x z) (K37p7 u e d f x27 x34 x45) [⟨g, x_v10.length, m, 3, 1, aa, 0⟩, ⟨bc, 1, 1, 3, 1, ([.int .i64 x27] : List Value), 0⟩] f6) => ?_
           have bq : Cells a4 ([x27] : List Int) ([.int .i64 x27] : List Value) := ⟨_, _, rfl, (rep_int : rep a4 (x27 : Int) _), rfl⟩
           refine hK _ _ ?_
           obtain ⟨x64, ex64, y⟩ := bnd y
           obtain ⟨ca, e6⟩ := app_some ex64
           refine wl fun K hK => ?_
           refine wp_append 0 8 1 _ (x64.length) _ ([.int .i64 x27] : List Value) ee cw rfl rfl (by decide) rfl (by rfl) (by kernel_rfl) (by rfl) (by rfl) (Cells.len bq) (cw.rowCell (i := 1) rfl) bq.one (by rw [ca]; simp <;> omega) (by rw [ca]; exact e6) (by decide) fun az a3 ch fs f7 dj (eg : Kn 67 (K37e2 p q s x_v11 x z) ((tS 64 az x64.length a3) :: (tS 63 bc 1 1) :: (K37m10 x27 g x_v10 m x_v11 d e f)) fs) (b1 : Mem ⟨w, h, noX⟩ a4 (K37e2 p q s x_v11 x z) (K37p7 u e d f x27 x34 x45) [⟨az, x64.length, a3, 3, 1, (aa ++ ([.int .i64 x27] : List Value)), ch⟩, ⟨bc, 1, 1, 3, 1, ([.int .i64 x27] : List Value), 0⟩] f7) => ?_
           have dd : Cells a4 x64 (aa ++ ([.int .i64 x27] : List Value)) := by rw [ca]; exact Cells.append ac bq
           obtain rfl : ch = 0 := Nat.le_zero.1 dj
           refine hK _ _ ?_
           refine Rk 4 1 ((tS 6 az x64.length a3) :: (tI 25 x_v11) :: (K37m9 d e f)) eg b1 fun g3 eh => ?_
           refine wf (wp_region_from (Rk 0 2 ((tI 25 (IntKind.i64.wrap (x_v11 + 1))) :: (tS 6 az x64.length a3) :: (K37m9 d e f)) eh b1 fun g4 ei => ?_))
           refine wf ?_
           exact Exists.intro ae ⟨Nat.lt_succ_self _, Exists.intro x64 ⟨(IntKind.i64.wrap (x_v11 + 1)), az, a3, (aa ++ ([.int .i64 x27] : List Value)), _, _, rfl, ((ei.keep [25, 24, 23, 6, 4] (by rfl)).cut 1 (by kernel_rfl)), ((b1.cutRw 1).cutPl 1 (by kernel_rfl)), (Heap.le_trans ag (Heap.le_trans ai (Heap.le_trans aj bg))), dd, y⟩⟩
          ·
           rw [bl, cond_false] at y
           refine wp_skip (wp_region_from (Rk 0 2 [(tI 25 (IntKind.i64.wrap (x_v11 + 1))), (tI 24 ((d.v.numbers.length : Nat) : Int)), (tS 23 e d.v.numbers.length f), (tS 6 g x_v10.length m), (tP 4 0 0)] bu a8 fun g5 ej => ?_))
           refine wf ?_
           exact Exists.intro ae ⟨Nat.lt_succ_self _, Exists.intro x_v10 ⟨(IntKind.i64.wrap (x_v11 + 1)), g, m, aa, _, _, rfl, ((ej.keep [25, 24, 23, 6, 4] (by rfl)).cut 1 (by kernel_rfl)), (a8.cutPl 1 (by kernel_rfl)), (Heap.le_trans ag (Heap.le_trans ai (Heap.le_trans aj bg))), ac, y⟩⟩
       refine D_two 6 10 rfl rfl (by kernel_rfl) (by decide) (rfl) (rfl) (fun K hK => ?_) (fun K hK => ?_)
       ·
        refine wc [.c (.map (some u)), .c (.int .i64 x34.1.sg)] cj bx (pit_cards_card_ok ae bx.has d.v.cards ab ah x34.1.sg ex45) fun hr c9 hy c7 cq b2 => ?_
        replace ab := cq _ _ _ ab
        obtain ⟨_, _, rfl, ⟨_, rfl, ⟨_, _, rfl, rfl, ⟨_, _, rfl, rfl, ⟨_, _, rfl, rfl, ⟨_, _, rfl, rfl, ⟨_, _, rfl, rfl, rfl⟩⟩⟩⟩⟩⟩, rfl⟩ := c7
        refine ⟨.tup [.agg (K37c5 x45), .c (.bool x45.2)], rfl, fun ft (ek : Kn 67 [(p, 0), (q, s + (x_v11 : Int).toNat * 1), (x, 0), (0, 0)] ((45, .tup [.agg (K37c5 x45), .c (.bool x45.2)]) :: (tI 44 x34.1.sg) :: (42, .one (.c (.map (some u)))) :: (K37m11 x27 x_v11 d e f g x_v10 m)) ft) => hK _ _ b2.plOk ?_⟩
        refine Dr [7, 8, 9] (dn 9) ((tB 47 x45.2) :: (tA 46 (K37c5 x45)) :: (K37m11 x27 x_v11 d e f g x_v10 m)) ek b2 fun g7 el => ?_
        refine Dl 10 fun K hK => ?_
        refine waA 3 K37c3 el b2 fun bd fu f8 (em : Kn 67 [(p, 0), (q, s + (x_v11 : Int).toNat * 1), (x, 0), (bd, 0)] ((tP 10 3 0) :: (tB 47 x45.2) :: (tA 46 (K37c5 x45)) :: (K37m11 x27 x_v11 d e f g x_v10 m)) fu) (cx : Mem ⟨w, h, noX⟩ c9 [(p, 0), (q, s + (x_v11 : Int).toNat * 1), (x, 0), (bd, 0)] (K37p6 u e d f x27 x34) [⟨g, x_v10.length, m, 3, 1, aa, 0⟩] f8) => hK _ _ (PlOk.unset 3 rfl (by kernel_rfl) cx.plOk) (D_ext (e' := [(p, 0), (q, s + (x_v11 : Int).toNat * 1), (x, 0), (bd, 0)]) (pl' := (K37p6 u e d f x27 x34)) (fun _ hp => hp.unset 3 rfl (by kernel_rfl)) ?_)
        refine D_perm [9, 8, 7, 6, 10, 5, 4, 3, 2, 1, 0] (by kernel_rfl) (by rfl) (cz bd _ _ ?_)
        exact Exists.intro _ ⟨_, rfl, em.kp, cx, cq⟩
       ·
        refine waA 3 K37c3 cj bx fun a0 fv f9 (en : Kn 67 [(p, 0), (q, s + (x_v11 : Int).toNat * 1), (x, 0), (a0, 0)] ((tP 10 3 0) :: (tI 44 x34.1.sg) :: (42, .one (.c (.map (some u)))) :: (K37m11 x27 x_v11 d e f g x_v10 m)) fv) (b3 : Mem ⟨w, h, noX⟩ ad [(p, 0), (q, s + (x_v11 : Int).toNat * 1), (x, 0), (a0, 0)] (K37p6 u e d f x27 x34) [⟨g, x_v10.length, m, 3, 1, aa, 0⟩] f9) => hK _ _ (PlOk.unset 3 rfl (by kernel_rfl) b3.plOk) (D_ext (e' := [(p, 0), (q, s + (x_v11 : Int).toNat * 1), (x, 0), (a0, 0)]) (pl' := (K37p6 u e d f x27 x34)) (fun _ hp => hp.unset 3 rfl (by kernel_rfl)) ?_)
        refine Dl 6 fun K hK => ?_
        refine wc [.c (.map (some u)), .c (.int .i64 x34.1.sg)] en b3 (pit_cards_card_ok ae b3.has d.v.cards ab ah x34.1.sg ex45) fun hs gg hz c8 cr b4 => ?_
        replace ab := cr _ _ _ ab
        obtain ⟨_, _, rfl, ⟨_, rfl, ⟨_, _, rfl, rfl, ⟨_, _, rfl, rfl, ⟨_, _, rfl, rfl, ⟨_, _, rfl, rfl, ⟨_, _, rfl, rfl, rfl⟩⟩⟩⟩⟩⟩, rfl⟩ := c8
        refine ⟨.tup [.agg (K37c5 x45), .c (.bool x45.2)], rfl, fun fw (eo : Kn 67 [(p, 0), (q, s + (x_v11 : Int).toNat * 1), (x, 0), (a0, 0)] ((45, .tup [.agg (K37c5 x45), .c (.bool x45.2)]) :: (tP 10 3 0) :: (tI 44 x34.1.sg) :: (42, .one (.c (.map (some u)))) :: (K37m11 x27 x_v11 d e f g x_v10 m)) fw) => hK _ _ b4.plOk ?_⟩
        refine Dr [7, 8, 9] [9, 8, 7, 6, 10, 5, 4, 3, 2, 1, 0] ((tB 47 x45.2) :: (tA 46 (K37c5 x45)) :: (tP 10 3 0) :: (K37m11 x27 x_v11 d e f g x_v10 m)) eo b4 fun g8 ep => ?_
        refine D_perm [9, 8, 7, 6, 10, 5, 4, 3, 2, 1, 0] (by kernel_rfl) (by rfl) (cz a0 _ _ ?_)
        exact Exists.intro _ ⟨_, rfl, ep.kp, b4, cr⟩
     ·
      rw [bn, cond_false] at y
      refine wp_exit ?_
      obtain rfl := Option.some.inj y
      exact Exists.intro g ⟨m, aa, _, _, rfl, bw.kp, b7, ag, ac⟩
   ·
    rintro _ ga ⟨am, an, a9, cc, bf, rfl, er, b5, e7, br⟩
    replace ab := e7 _ _ _ ab
    refine wp_seq (wp_region_from (Rk 0 3 [(tI 3 0), (tS 2 am al.length an)] er b5 fun g9 es => ?_))
    refine wf (wp_ret ?_)
    obtain ⟨ci, ct, fe, b6⟩ := b5.settle (i := 0) rfl
    replace br := br.mono ct
    replace ab := ct _ _ _ ab
    replace b6 : Mem ⟨w, h, noX⟩ ci [(p, 0)] [⟨(K37c1 u e d f), none⟩] [⟨am, al.length, an, 3, 1, a9, (a9 : List Value).length⟩] ga := b6
    have fd : RepS ci am an al := ⟨_, br, fe, b5.rowCap (i := 0) rfl⟩
    obtain rfl := Option.some.inj H
    exact rt (.tup [.c (.slice am al.length an), .c (.int .i64 0)]) es b6 ⟨_, _, rfl, ⟨_, _, rfl, fd⟩, rfl⟩
end Go.Proofs.Ytkbphdjemgibnaa
