/- Each call computes its plain function. -/
import Derived.Test.YtkbphdjemgibnaaProg
import Derived.Test.YtkbphdjemgibnaaHeP0
import Derived.Test.YtkbphdjemgibnaaHeWA
import Derived.Test.YtkbphdjemgibnaaHeWR
import Derived.Test.YtkbphdjemgibnaaHeWS
import Derived.Test.YtkbphdjemgibnaaHeWW
set_option linter.all false
namespace Go.Proofs.Ytkbphdjemgibnaa
open Go Go.RowKit
open Rep (rep)
open KRep (kv)
open VRep (rv)
abbrev K3e1 (d e f : Nat) (which : IK .u8) (l : List Card) (g : Nat) : Env := [(d, 0), (e, f + (Int.tmod (IntKind.i64.wrap which.n) ((l.length : Nat) : Int) : Int).toNat * 6), (g, 0)]
abbrev K3c2 (x42 : Card) : List SC := [.int .i64 x42.bus, .int .i64 x42.number, .int .i64 x42.minute, .int .u8 x42.kind.n, .int .i64 x42.part, .int .i64 x42.sg]
abbrev K3c3 (x72 : Card) : List SC := [.int .i64 x72.bus, .int .i64 x72.number, .int .i64 x72.minute, .int .u8 x72.kind.n, .int .i64 x72.part, .int .i64 x72.sg]
abbrev K3c4 (x79 : Card) : List SC := [.int .i64 x79.bus, .int .i64 x79.number, .int .i64 x79.minute, .int .u8 x79.kind.n, .int .i64 x79.part, .int .i64 x79.sg]
abbrev K3c5 (x89 : Card) : List SC := [.int .i64 x89.bus, .int .i64 x89.number, .int .i64 x89.minute, .int .u8 x89.kind.n, .int .i64 x89.part, .int .i64 x89.sg]
abbrev K3c6 (x99 : Card) : List SC := [.int .i64 x99.bus, .int .i64 x99.number, .int .i64 x99.minute, .int .u8 x99.kind.n, .int .i64 x99.part, .int .i64 x99.sg]
abbrev K3c7 (more : Card) : List SC := [.int .i64 more.bus, .int .i64 more.number, .int .i64 more.minute, .int .u8 more.kind.n, .int .i64 more.part, .int .i64 more.sg]
abbrev K3c8 (x109 : Card) : List SC := [.int .i64 x109.bus, .int .i64 x109.number, .int .i64 x109.minute, .int .u8 x109.kind.n, .int .i64 x109.part, .int .i64 x109.sg]
abbrev K3c9 (more : Card) : List SC := [.int .i64 more.bus, .int .i64 more.number, .int .i64 more.minute, .int .u8 (Int.tmod more.kind.n 2), .int .i64 more.part, .int .i64 more.sg]
abbrev K3e10 (d e f : Nat) (which : IK .u8) (l : List Card) (g ai aj : Nat) (x_v10 : Int) : Env := [(d, 0), (e, f + (Int.tmod (IntKind.i64.wrap which.n) ((l.length : Nat) : Int) : Int).toNat * 6), (g, 0), (ai, aj + (x_v10 : Int).toNat * 6)]
abbrev K3e11 (d e f : Nat) (which : IK .u8) (l : List Card) (g bj bt : Nat) (x_v20 : Int) : Env := [(d, 0), (e, f + (Int.tmod (IntKind.i64.wrap which.n) ((l.length : Nat) : Int) : Int).toNat * 6), (g, 0), (bj, bt + (x_v20 : Int).toNat * 1)]
abbrev K3e12 (d e f : Nat) (which : IK .u8) (l : List Card) (g bk bu : Nat) (x_v40 : Int) : Env := [(d, 0), (e, f + (Int.tmod (IntKind.i64.wrap which.n) ((l.length : Nat) : Int) : Int).toNat * 6), (g, 0), (bk, bu + (x_v40 : Int).toNat * 1)]
abbrev K3e13 (d e f : Nat) (which : IK .u8) (l : List Card) (g bl bv : Nat) (x_v50 : Int) : Env := [(d, 0), (e, f + (Int.tmod (IntKind.i64.wrap which.n) ((l.length : Nat) : Int) : Int).toNat * 6), (g, 0), (bl, bv + (x_v50 : Int).toNat * 1)]
abbrev K3e14 (d e f : Nat) (which : IK .u8) (l : List Card) (g bi bs : Nat) (x_v70 : Int) : Env := [(d, 0), (e, f + (Int.tmod (IntKind.i64.wrap which.n) ((l.length : Nat) : Int) : Int).toNat * 6), (g, 0), (bi, bs + (x_v70 : Int).toNat * 1)]
abbrev K3e15 (d e f : Nat) (which : IK .u8) (l : List Card) (g ai aj : Nat) (x_v10 : Int) (aq ar : Nat) : Env := [(d, 0), (e, f + (Int.tmod (IntKind.i64.wrap which.n) ((l.length : Nat) : Int) : Int).toNat * 6), (g, 0), (ai, aj + (x_v10 : Int).toNat * 6), (aq, ar + (x_v10 : Int).toNat * 6)]
abbrev K3e16 (d e f : Nat) (which : IK .u8) (l : List Card) (g ai aj : Nat) (x_v10 : Int) (aq ar a6 a9 : Nat) : Env := [(d, 0), (e, f + (Int.tmod (IntKind.i64.wrap which.n) ((l.length : Nat) : Int) : Int).toNat * 6), (g, 0), (ai, aj + (x_v10 : Int).toNat * 6), (aq, ar + (x_v10 : Int).toNat * 6), (a6, a9 + (x_v10 : Int).toNat * 6)]
abbrev K3e17 (d e f : Nat) (which : IK .u8) (l : List Card) (g ai aj : Nat) (x_v10 : Int) (aq ar a6 a9 bw cb : Nat) : Env := [(d, 0), (e, f + (Int.tmod (IntKind.i64.wrap which.n) ((l.length : Nat) : Int) : Int).toNat * 6), (g, 0), (ai, aj + (x_v10 : Int).toNat * 6), (aq, ar + (x_v10 : Int).toNat * 6), (a6, a9 + (x_v10 : Int).toNat * 6), (bw, cb + (x_v10 : Int).toNat * 6)]
abbrev K3f18 (more : Card) : List Fl := [⟨0, 127, 24, 6, 0, []⟩, ⟨4, 131, 24, 6, 1, (K3c9 more)⟩]
abbrev K3p19 (more x42 : Card) : List Plc := [⟨(K3c7 more), some 24⟩, ⟨(K3c2 x42), none⟩, ⟨(K3c2 x42), some 24⟩]
abbrev K3p20 (more x42 : Card) : List Plc := [⟨(K3c9 more), some 24⟩, ⟨(K3c2 x42), none⟩, ⟨(K3c2 x42), some 24⟩]
abbrev K3r21 (ac : Option Addr) (x132 : List Card) (ae : Nat) (am : List Value) (more : Card) (ak : Option Addr) : List Row := [⟨ac, x132.length, ae, 24, 6, (am ++ ([.int .i64 more.bus, .int .i64 more.number, .int .i64 more.minute, .int .u8 (Int.tmod more.kind.n 2), .int .i64 more.part, .int .i64 more.sg] : List Value)), ((am ++ ([.int .i64 more.bus, .int .i64 more.number, .int .i64 more.minute, .int .u8 (Int.tmod more.kind.n 2), .int .i64 more.part, .int .i64 more.sg] : List Value)) : List Value).length⟩, ⟨ak, 1, 1, 24, 6, ([.int .i64 more.bus, .int .i64 more.number, .int .i64 more.minute, .int .u8 (Int.tmod more.kind.n 2), .int .i64 more.part, .int .i64 more.sg] : List Value), 0⟩]
abbrev K3r22 (ad : Option Addr) (x132 : List Card) (af : Nat) (an : List Value) (more : Card) (al : Option Addr) : List Row := [⟨ad, x132.length, af, 24, 6, (an ++ ([.int .i64 more.bus, .int .i64 more.number, .int .i64 more.minute, .int .u8 (Int.tmod more.kind.n 2), .int .i64 more.part, .int .i64 more.sg] : List Value)), ((an ++ ([.int .i64 more.bus, .int .i64 more.number, .int .i64 more.minute, .int .u8 (Int.tmod more.kind.n 2), .int .i64 more.part, .int .i64 more.sg] : List Value)) : List Value).length⟩, ⟨al, 1, 1, 24, 6, ([.int .i64 more.bus, .int .i64 more.number, .int .i64 more.minute, .int .u8 (Int.tmod more.kind.n 2), .int .i64 more.part, .int .i64 more.sg] : List Value), 0⟩]
abbrev K3m23 (a : Option Addr) (x50 : (List Int) × Int) (b : Nat) (x35 : Int) (a_l : Option Addr) (l : List Card) (c_l : Nat) : TM := [(tS 11 a x50.1.length b), (tP 10 2 0), (tI 9 x35), (tP 6 0 0), (tS 0 a_l l.length c_l)]
abbrev K3m24 (q : Option Addr) (x157 : (List Int) × Int) (u : Nat) (k : Option Addr) (x150 : (List Int) × Int) (o : Nat) (y : Option Addr) (x143 : (List Int) × Int) (aa : Nat) (a : Option Addr) (x50 : (List Int) × Int) (b : Nat) : TM := [(tS 20 q x157.1.length u), (tS 18 k x150.1.length o), (tS 16 y x143.1.length aa), (tS 11 a x50.1.length b), (tP 6 0 0)]
abbrev K3m25 (s : Option Addr) (x157 : (List Int) × Int) (x : Nat) (m : Option Addr) (x150 : (List Int) × Int) (p : Nat) (z : Option Addr) (x143 : (List Int) × Int) (ab : Nat) (a : Option Addr) (x50 : (List Int) × Int) (b : Nat) : TM := [(tS 20 s x157.1.length x), (tS 18 m x150.1.length p), (tS 16 z x143.1.length ab), (tS 11 a x50.1.length b), (tP 6 0 0)]
abbrev K3m26 (q : Option Addr) (x157 : (List Int) × Int) (u : Nat) (k : Option Addr) (x150 : (List Int) × Int) (o : Nat) : TM := [(tS 20 q x157.1.length u), (tS 18 k x150.1.length o), (tP 6 0 0)]
abbrev K3m27 (s : Option Addr) (x157 : (List Int) × Int) (x : Nat) (m : Option Addr) (x150 : (List Int) × Int) (p : Nat) : TM := [(tS 20 s x157.1.length x), (tS 18 m x150.1.length p), (tP 6 0 0)]
abbrev K3m28 (a_l : Option Addr) (l : List Card) (c_l : Nat) (which : IK .u8) (minute : IK .u32) : TM := [(tP 6 0 0), (tS 0 a_l l.length c_l), (1, .one (.c (.int .u8 which.n))), (3, .one (.c (.int .u32 minute.n)))]
abbrev K3m29 (x35 : Int) (a_l : Option Addr) (l : List Card) (c_l : Nat) : TM := [(tI 9 x35), (tP 6 0 0), (tS 0 a_l l.length c_l)]
abbrev K3m30 (a : Option Addr) (x50 : (List Int) × Int) (b : Nat) (x35 : Int) : TM := [(tS 11 a x50.1.length b), (tI 9 x35), (tP 6 0 0)]
set_option maxRecDepth 100000 in
set_option maxHeartbeats 4000000 in
theorem law_PitHeld_ok (n : Nat) {h : Heap} {w : World} (hh : Has h w) (l : List Card) {a_l : Option Addr} {c_l : Nat} (hr_l : RepS h a_l c_l l) (which : IK .u8) (more : Card) {cs_more : List Value} (hx_more : rep h more cs_more) (minute : IK .u32) {r : Bool} (H : law_PitHeld n l which more minute = some r) :
  Calls Try.prog 3 #[.slice a_l l.length c_l, .int .u8 which.n, .agg cs_more.toArray, .int .u32 minute.n] w (Ret (fun h v => v = .bool r) h w) := by
 obtain ⟨_, _, rfl, rfl, ⟨_, _, rfl, rfl, ⟨_, _, rfl, rfl, ⟨_, _, rfl, rfl, ⟨_, _, rfl, rfl, rfl⟩⟩⟩⟩⟩ := hx_more
 refine enter 228 [.c (.slice a_l l.length c_l), .c (.int .u8 which.n), .agg (K3c7 more), .c (.int .u32 minute.n)] Try.func3 rfl rfl rfl rfl fun t hk => ?_
 have hm := Mem.begin h w hh
 unfold law_PitHeld at H
 refine wp_seq (wp_region_from (wl fun K hK => ?_))
 refine wb (.agg (K3c7 more)) hk hm fun d x8 zm (rg : Kn 228 [(d, 0)] [(tP 6 0 0), (tS 0 a_l l.length c_l), (1, .one (.c (.int .u8 which.n))), (tA 2 (K3c7 more)), (3, .one (.c (.int .u32 minute.n)))] x8) (ft : Mem ⟨w, h, noX⟩ h [(d, 0)] [⟨(K3c7 more), some 24⟩] [] zm) => hK _ _ ?_
 refine Rk 1 1 (K3m28 a_l l c_l which minute) rg ft fun ad1 s8 => ?_
 refine wf (wp_seq (wp_seq ?_))
 obtain ⟨ih, cr, H⟩ := bnd H
 refine wp_mid' (fun a' w' => ∃ (ix : Array Value) (f6 : Heap), a' = ⟨ix, []⟩ ∧ Kn 228 [(d, 0)] [(tP 6 0 0), (tS 0 a_l l.length c_l), (1, .one (.c (.int .u8 which.n))), (3, .one (.c (.int .u32 minute.n))), (tB 32 ih)] ix ∧ Mem ⟨w, h, noX⟩ f6 [(d, 0)] [⟨(K3c7 more), some 24⟩] [] w' ∧ Heap.le h f6) ?_ ?_
 ·
  refine wp_region_from (Rk 0 1 ((tS 25 a_l l.length c_l) :: (K3m28 a_l l c_l which minute)) s8 ft fun ab1 pv => ?_)
  obtain ⟨x26, ex26, cr⟩ := bnd cr
  refine wl fun K hK => ?_
  refine wc [.c (.slice a_l l.length c_l)] pv ft (law_ready_ok n ft.has l hr_l ex26) fun ae9 aar af4 mr kk eh => ?_
  obtain rfl := mr
  refine ⟨.one (.c (.bool x26)), rfl, fun x6 (p5 : Kn 228 [(d, 0)] ((tB 26 x26) :: (tS 25 a_l l.length c_l) :: (K3m28 a_l l c_l which minute)) x6) => hK _ _ ?_⟩
  refine Rk 2 2 ((tB 28 (!x26)) :: (K3m28 a_l l c_l which minute)) p5 eh fun lz j5 => ?_
  rcases Bool.eq_false_or_eq_true ((!x26)) with dr | dr
  ·
   rw [dr, cond_true] at cr
   have qf : Kn 228 [(d, 0)] ((tB 28 true) :: (K3m28 a_l l c_l which minute)) lz := (j5.setB 28 true (by rfl) dr).kp
   refine Rk 4 4 ((tB 32 true) :: (K3m28 a_l l c_l which minute)) qf eh fun acr qs => ?_
   refine wf ?_
   obtain rfl := Option.some.inj cr
   exact Exists.intro _ ⟨_, rfl, qs.kp, eh, kk⟩
  ·
   rw [dr, cond_false] at cr
   have qu : Kn 228 [(d, 0)] ((tB 28 false) :: (K3m28 a_l l c_l which minute)) lz := (j5.setB 28 false (by rfl) dr).kp
   refine Rk 4 4 ((tB 32 (((l.length : Nat) : Int) == 0)) :: (K3m28 a_l l c_l which minute)) qu eh fun acy q1 => ?_
   refine wf ?_
   obtain rfl := Option.some.inj cr
   exact Exists.intro _ ⟨_, rfl, q1.kp, eh, kk⟩
 ·
  rintro _ af7 ⟨ix, f6, rfl, g6, ej, u2⟩
  replace hr_l := hr_l.mono u2
  refine wC (ih) g6 (fun gj => ?_) (fun gj => ?_)
  ·
   rw [gj, cond_true] at H
   refine wp_seq (wp_region_from ?_)
   obtain ⟨x33, ex33, H⟩ := bnd H
   refine wl fun K hK => ?_
   refine wc [] g6 ej (law_wakes_ok n ej.has  ex33) fun afd aav agc mx abd kw => ?_
   obtain rfl := mx
   refine ⟨.one (.c (.bool x33)), rfl, fun yl (rl : Kn 228 [(d, 0)] [(tB 33 x33), (tP 6 0 0), (tS 0 a_l l.length c_l), (1, .one (.c (.int .u8 which.n))), (3, .one (.c (.int .u32 minute.n))), (tB 32 ih)] yl) => hK _ _ ?_⟩
   refine Rk 1 1 [(tB 8 x33)] rl kw fun ada rp => ?_
   refine wf (wp_ret ?_)
   obtain rfl := Option.some.inj H
   exact rt (.one (.c (.bool x33))) rp kw rfl
  ·
   rw [gj, cond_false] at H
   refine wp_skip (wp_seq (wp_region_from (Rk 0 1 [(34, .one (.c (.int .u32 minute.n))), (tP 6 0 0), (tS 0 a_l l.length c_l), (1, .one (.c (.int .u8 which.n)))] g6 ej fun ade rz => ?_)))
   obtain ⟨x35, ex35, H⟩ := bnd H
   refine wl fun K hK => ?_
   refine wc [.c (.int .u32 minute.n)] rz ej (law_minuted_ok n ej.has minute ex35) fun afk f9 zo m2 u3 h1 => ?_
   replace hr_l := hr_l.mono u3
   obtain rfl := m2
   refine ⟨.one (.c (.int .i64 x35)), rfl, fun yr (se : Kn 228 [(d, 0)] [(tI 35 x35), (34, .one (.c (.int .u32 minute.n))), (tP 6 0 0), (tS 0 a_l l.length c_l), (1, .one (.c (.int .u8 which.n)))] yr) => hK _ _ ?_⟩
   refine Rk 2 1 [(tI 9 x35), (tP 6 0 0), (tS 0 a_l l.length c_l), (1, .one (.c (.int .u8 which.n)))] se h1 fun ads si => ?_
   refine wf (wp_seq (wp_region_from (Rk 0 5 ((tI 40 ((l.length : Nat) : Int)) :: (tI 38 (IntKind.i64.wrap which.n)) :: (tS 36 a_l l.length c_l) :: (K3m29 x35 a_l l c_l)) si h1 fun adv sm => ?_)))
   obtain ⟨x41, ex41, H⟩ := bnd H
   refine R_rem 5 sm rfl rfl (rfl) rfl (by decide) (by rfl) (by rfl) (nz_some ex41) fun yu (st : Kn 228 [(d, 0)] ((tI 41 (Int.tmod (IntKind.i64.wrap which.n) ((l.length : Nat) : Int))) :: (tI 40 ((l.length : Nat) : Int)) :: (tI 38 (IntKind.i64.wrap which.n)) :: (tS 36 a_l l.length c_l) :: (K3m29 x35 a_l l c_l)) yu) => ?_
   obtain ⟨x42, ex42, H⟩ := bnd H
   obtain ⟨vp, v5, xh⟩ := idx_some ex42
   obtain ⟨e, f, aad, n7, w1, ou⟩ := hr_l.get (by decide) xh
   obtain ⟨_, _, rfl, rfl, ⟨_, _, rfl, rfl, ⟨_, _, rfl, rfl, ⟨_, _, rfl, rfl, ⟨_, _, rfl, rfl, rfl⟩⟩⟩⟩⟩ := w1
   have k1 : Mem ⟨w, h, noX⟩ f9 [(d, 0), (e, f + (Int.tmod (IntKind.i64.wrap which.n) ((l.length : Nat) : Int) : Int).toNat * 6)] [⟨(K3c7 more), some 24⟩, ⟨(K3c2 x42), none⟩] [] zo := h1.addPlc (cs := (K3c2 x42)) (fun j c hj => ou j _ (map_get hj)) rfl (by kernel_rfl) (by kernel_rfl)
   refine R_index 6 (Int.tmod (IntKind.i64.wrap which.n) ((l.length : Nat) : Int)) rfl rfl (rfl) rfl (by decide) st (by rfl) (by rfl) (by rfl) n7 (by rfl) vp v5 (by kernel_rfl) fun y0 (tb : Kn 228 [(d, 0), (e, f + (Int.tmod (IntKind.i64.wrap which.n) ((l.length : Nat) : Int) : Int).toNat * 6)] ((tP 42 1 0) :: (tI 41 (Int.tmod (IntKind.i64.wrap which.n) ((l.length : Nat) : Int))) :: (tI 40 ((l.length : Nat) : Int)) :: (tI 38 (IntKind.i64.wrap which.n)) :: (tS 36 a_l l.length c_l) :: (K3m29 x35 a_l l c_l)) y0) => ?_
   refine Rk 7 1 ((tA 43 (K3c2 x42)) :: (K3m29 x35 a_l l c_l)) tb k1 fun aed tf => ?_
   refine wl fun K hK => ?_
   refine wa [.int .i64 0, .int .i64 0, .int .i64 0, .int .u8 0, .int .i64 0, .int .i64 0] tf k1 fun g l6 zw (tk : Kn 228 (K3e1 d e f which l g) ((tP 10 2 0) :: (tA 43 (K3c2 x42)) :: (K3m29 x35 a_l l c_l)) l6) (vb : Mem ⟨w, h, noX⟩ f9 (K3e1 d e f which l g) [⟨(K3c7 more), some 24⟩, ⟨(K3c2 x42), none⟩, ⟨[.int .i64 0, .int .i64 0, .int .i64 0, .int .u8 0, .int .i64 0, .int .i64 0], some 24⟩] [] zw) => hK _ _ ?_
   refine wl fun K hK => ?_
   refine wst 2 0 (.agg (K3c2 x42)) (K3c2 x42) tk vb fun zx tr (es : Mem ⟨w, h, noX⟩ f9 (K3e1 d e f which l g) (K3p19 more x42) [] zx) => hK _ _ ?_
   have tv : Kn 228 (K3e1 d e f which l g) ((tP 10 2 0) :: (K3m29 x35 a_l l c_l)) l6 := tr.kp
   refine wf (wp_seq (wp_region_G (by kernel_rfl) ?_))
   replace es := es.drew
   refine wpG_of_D [] (K3e1 d e f which l g) (K3p19 more x42) ?_
   refine Dr [0, 2, 3, 4] [4, 3, 2, 0] ((tI 49 x35) :: (tI 48 x42.bus) :: (tS 45 a_l l.length c_l) :: (tP 10 2 0) :: (K3m29 x35 a_l l c_l)) tv es fun ael t1 => ?_
   obtain ⟨x46, ex46, H⟩ := bnd H
   refine Dl 1 fun K hK => ?_
   refine wc [.c (.slice a_l l.length c_l)] t1 es (law_Cards_ok n es.has l hr_l ex46) fun afw aa9 agw ng u5 h7 => ?_
   obtain ⟨e5, fa, rfl, wi⟩ := ng
   refine ⟨.one (.c (.slice e5 x46.length fa)), rfl, fun zf (ul : Kn 228 (K3e1 d e f which l g) ((tS 46 e5 x46.length fa) :: (tI 49 x35) :: (tI 48 x42.bus) :: (tS 45 a_l l.length c_l) :: (tP 10 2 0) :: (K3m29 x35 a_l l c_l)) zf) => hK _ _ h7.plOk ?_⟩
   obtain ⟨x50, ex50, H⟩ := bnd H
   refine Dl 5 fun K hK => ?_
   refine wc [.c (.slice e5 x46.length fa), .c (.int .i64 x42.bus), .c (.int .i64 x35)] ul h7 (pit_Open_ok n h7.has x46 wi x42.bus x35 ex50) fun afz ce agz mn u0 bc => ?_
   replace hr_l := hr_l.mono (Heap.le_trans u5 u0)
   obtain ⟨_, _, rfl, ⟨a, b, rfl, ag⟩, rfl⟩ := mn
   refine ⟨.tup [.c (.slice a x50.1.length b), .c (.int .i64 x50.2)], rfl, fun xx (pf : Kn 228 (K3e1 d e f which l g) ((50, .tup [.c (.slice a x50.1.length b), .c (.int .i64 x50.2)]) :: (tS 46 e5 x46.length fa) :: (tI 49 x35) :: (tI 48 x42.bus) :: (tS 45 a_l l.length c_l) :: (tP 10 2 0) :: (K3m29 x35 a_l l c_l)) xx) => hK _ _ bc.plOk ?_⟩
   refine Dr [6, 7, 8, 9, 10] [10, 9, 8, 7, 6, 5, 1, 4, 3, 2, 0] ((tI 12 x50.2) :: (K3m23 a x50 b x35 a_l l c_l)) pf bc fun aby pj => ?_
   refine wpD_end (by kernel_rfl) (wp_seq (wp_seq (wp_region_from (Rk 0 2 ((tB 54 (x50.2 != 0)) :: (K3m23 a x50 b x35 a_l l c_l)) pj bc fun ab2 g2 => ?_))))
   refine wf (wC ((x50.2 != 0)) g2 (fun gf => ?_) (fun gf => ?_))
   ·
    rw [gf, cond_true] at H
    refine wp_seq (wp_region_from (Rk 0 1 [(tB 8 false)] g2 bc fun ab8 ps => ?_))
    refine wf (wp_ret ?_)
    obtain rfl := Option.some.inj H
    exact rt (.one (.c (.bool false))) ps bc rfl
   ·
    rw [gf, cond_false] at H
    refine wp_skip (wp_seq (wp_seq (wp_region_from (Rk 0 3 ((tB 57 (x42.kind.n == 1)) :: (K3m23 a x50 b x35 a_l l c_l)) g2 bc fun ab9 g3 => ?_))))
    refine wf (wC ((x42.kind.n == 1)) g3 (fun gg => ?_) (fun gg => ?_))
    ·
     rw [gg, cond_true] at H
     refine wp_seq (wp_region_from (Rk 0 5 ((tB 13 (decide (x42.minute ≤ x35))) :: (K3m23 a x50 b x35 a_l l c_l)) g3 bc fun aca pu => ?_))
     refine wf (wp_seq (wp_seq (wp_region_from (Rk 0 1 ((tI 14 0) :: (tB 13 (decide (x42.minute ≤ x35))) :: (K3m23 a x50 b x35 a_l l c_l)) pu bc fun acb pw => ?_))))
     refine wf ?_
     obtain ⟨cx, je, H⟩ := bnd H
     refine wp_mid' (fun a' w' => ∃ (ik : Array Value) (f8 : Heap), a' = ⟨ik, []⟩ ∧ Kn 228 (K3e1 d e f which l g) ((tB 13 cx) :: (K3m23 a x50 b x35 a_l l c_l)) ik ∧ Mem ⟨w, h, noX⟩ f8 (K3e1 d e f which l g) (K3p19 more x42) [] w' ∧ Heap.le ce f8) ?_ ?_
     ·
      refine wp_block ?_
      refine wp_loop_n (fun xp a' w' => ∃ (x_v10 : Int) (x_v11 : Bool) (il : Array Value) (b0 : Heap), a' = ⟨il, []⟩ ∧ Kn 228 (K3e1 d e f which l g) ((tI 14 x_v10) :: (tB 13 x_v11) :: (K3m23 a x50 b x35 a_l l c_l)) il ∧ Mem ⟨w, h, noX⟩ b0 (K3e1 d e f which l g) (K3p19 more x42) [] w' ∧ Heap.le ce b0 ∧ law_PitHeld_l1 xp l minute x35 x42 x_v10 x_v11 = some cx) n ?_ ?_
      ·
       exact Exists.intro 0 ⟨(decide (x42.minute ≤ x35)), _, _, rfl, pw.kp, bc, (Heap.le_refl _), je⟩
      ·
       rintro ca _ e0 ⟨x_v10, x_v11, il, b0, rfl, px, bd, b2, ah⟩
       clear je
       obtain _ | ca := ca
       ·
        rw [law_PitHeld_l1] at ah; cases ah
       rw [law_PitHeld_l1] at ah
       replace hr_l := hr_l.mono b2
       refine wp_seq (wp_seq (wp_region_from (Rk 0 4 ((tB 65 (decide (x_v10 < ((l.length : Nat) : Int)))) :: (tI 14 x_v10) :: (tB 13 x_v11) :: (K3m23 a x50 b x35 a_l l c_l)) px bd fun acc g4 => ?_)))
       refine wf (wC (decide (x_v10 < ((l.length : Nat) : Int))) g4 (fun gh => ?_) (fun gh => ?_))
       ·
        rw [gh, cond_true] at ah
        refine wp_skip (wp_seq (wp_block (wp_region_G (by kernel_rfl) ?_)))
        replace bd := bd.drew
        refine wpG_of_D [] (K3e1 d e f which l g) (K3p19 more x42) ?_
        refine Dr [0, 1] [1, 0] ((tB 69 x_v11) :: (tI 14 x_v10) :: (K3m23 a x50 b x35 a_l l c_l)) g4 bd fun lv jv => ?_
        rcases Bool.eq_false_or_eq_true (x_v11) with dk | dk
        ·
         rw [dk, cond_true] at ah
         have py : Kn 228 (K3e1 d e f which l g) ((tB 69 true) :: (tI 14 x_v10) :: (K3m23 a x50 b x35 a_l l c_l)) lv := (jv.setB 69 true (by rfl) dk).kp
         refine Dr [2, 3] (dn 3) ((tI 71 x_v10) :: (tS 70 a_l l.length c_l) :: (tB 69 true) :: (tI 14 x_v10) :: (K3m23 a x50 b x35 a_l l c_l)) py bd fun acd jw => ?_
         obtain ⟨x72, ex72, ah⟩ := bnd ah
         obtain ⟨vf, vv, w7⟩ := idx_some ex72
         obtain ⟨ai, aj, z4, ny, wr, oh⟩ := hr_l.get (by decide) w7
         obtain ⟨_, _, rfl, rfl, ⟨_, _, rfl, rfl, ⟨_, _, rfl, rfl, ⟨_, _, rfl, rfl, ⟨_, _, rfl, rfl, rfl⟩⟩⟩⟩⟩ := wr
         have ck : Mem ⟨w, h, noX⟩ b0 (K3e10 d e f which l g ai aj x_v10) [⟨(K3c7 more), some 24⟩, ⟨(K3c2 x42), none⟩, ⟨(K3c2 x42), some 24⟩, ⟨(K3c3 x72), none⟩] [] (World.drew e0) := bd.addPlc (cs := (K3c3 x72)) (fun j c hj => oh j _ (map_get hj)) rfl (by kernel_rfl) (by kernel_rfl)
         refine D_index 4 (x_v10) (K3c3 x72) (fun _ _ _ _ _ h => h) rfl rfl (wantedS_sound jw (by kernel_rfl)) rfl (by decide) (by kernel_rfl) (by kernel_rfl) jw bd.plOk (by rfl) (by rfl) (by rfl) ny (by rfl) vf vv (by kernel_rfl) fun x4 (pz : Kn 228 (K3e10 d e f which l g ai aj x_v10) ((tP 72 3 0) :: (tI 71 x_v10) :: (tS 70 a_l l.length c_l) :: (tB 69 true) :: (tI 14 x_v10) :: (K3m23 a x50 b x35 a_l l c_l)) x4) => ?_
         refine Dr [5, 6, 7, 8] (dn 8) ((tB 76 (x72.kind.n == 2)) :: (tB 69 true) :: (tI 14 x_v10) :: (K3m23 a x50 b x35 a_l l c_l)) pz ck fun lw jx => ?_
         rcases Bool.eq_false_or_eq_true ((x72.kind.n == 2)) with dl | dl
         ·
          rw [dl, cond_true] at ah
          have p0 : Kn 228 (K3e10 d e f which l g ai aj x_v10) ((tB 76 true) :: (tB 69 true) :: (tI 14 x_v10) :: (K3m23 a x50 b x35 a_l l c_l)) lw := (jx.setB 76 true (by rfl) dl).kp
          refine Dr [9, 10] (dn 10) ((tI 78 x_v10) :: (tS 77 a_l l.length c_l) :: (tB 76 true) :: (tB 69 true) :: (tI 14 x_v10) :: (K3m23 a x50 b x35 a_l l c_l)) p0 ck fun ace jy => ?_
          obtain ⟨x79, ex79, ah⟩ := bnd ah
          obtain ⟨vg, vw, w8⟩ := idx_some ex79
          obtain ⟨aq, ar, z5, nz, ws, oi⟩ := hr_l.get (by decide) w8
          obtain ⟨_, _, rfl, rfl, ⟨_, _, rfl, rfl, ⟨_, _, rfl, rfl, ⟨_, _, rfl, rfl, ⟨_, _, rfl, rfl, rfl⟩⟩⟩⟩⟩ := ws
          have cl : Mem ⟨w, h, noX⟩ b0 (K3e15 d e f which l g ai aj x_v10 aq ar) [⟨(K3c7 more), some 24⟩, ⟨(K3c2 x42), none⟩, ⟨(K3c2 x42), some 24⟩, ⟨(K3c3 x72), none⟩, ⟨(K3c4 x79), none⟩] [] (World.drew e0) := ck.addPlc (cs := (K3c4 x79)) (fun j c hj => oi j _ (map_get hj)) rfl (by kernel_rfl) (by kernel_rfl)
          refine D_index 11 (x_v10) (K3c4 x79) (fun _ _ _ _ _ h => h) rfl rfl (wantedS_sound jy (by kernel_rfl)) rfl (by decide) (by kernel_rfl) (by kernel_rfl) jy ck.plOk (by rfl) (by rfl) (by rfl) nz (by rfl) vg vw (by kernel_rfl) fun x5 (p1 : Kn 228 (K3e15 d e f which l g ai aj x_v10 aq ar) ((tP 79 4 0) :: (tI 78 x_v10) :: (tS 77 a_l l.length c_l) :: (tB 76 true) :: (tB 69 true) :: (tI 14 x_v10) :: (K3m23 a x50 b x35 a_l l c_l)) x5) => ?_
          refine Dr [12, 13, 14, 15, 16, 17, 18] (dn 18) ((tB 86 (x79.bus == x42.bus)) :: (tB 69 true) :: (tI 14 x_v10) :: (K3m23 a x50 b x35 a_l l c_l)) p1 cl fun lx jz => ?_
          rcases Bool.eq_false_or_eq_true ((x79.bus == x42.bus)) with dm | dm
          ·
           rw [dm, cond_true] at ah
           have p2 : Kn 228 (K3e15 d e f which l g ai aj x_v10 aq ar) ((tB 86 true) :: (tB 69 true) :: (tI 14 x_v10) :: (K3m23 a x50 b x35 a_l l c_l)) lx := (jz.setB 86 true (by rfl) dm).kp
           refine Dr [19, 20] (dn 20) ((tI 88 x_v10) :: (tS 87 a_l l.length c_l) :: (tB 86 true) :: (tB 69 true) :: (tI 14 x_v10) :: (K3m23 a x50 b x35 a_l l c_l)) p2 cl fun acf j0 => ?_
           obtain ⟨x89, ex89, ah⟩ := bnd ah
           obtain ⟨vh, vx, w9⟩ := idx_some ex89
           obtain ⟨a6, a9, z6, n0, wt, oj⟩ := hr_l.get (by decide) w9
           obtain ⟨_, _, rfl, rfl, ⟨_, _, rfl, rfl, ⟨_, _, rfl, rfl, ⟨_, _, rfl, rfl, ⟨_, _, rfl, rfl, rfl⟩⟩⟩⟩⟩ := wt
           have cm : Mem ⟨w, h, noX⟩ b0 (K3e16 d e f which l g ai aj x_v10 aq ar a6 a9) [⟨(K3c7 more), some 24⟩, ⟨(K3c2 x42), none⟩, ⟨(K3c2 x42), some 24⟩, ⟨(K3c3 x72), none⟩, ⟨(K3c4 x79), none⟩, ⟨(K3c5 x89), none⟩] [] (World.drew e0) := cl.addPlc (cs := (K3c5 x89)) (fun j c hj => oj j _ (map_get hj)) rfl (by kernel_rfl) (by kernel_rfl)
           refine D_index 21 (x_v10) (K3c5 x89) (fun _ _ _ _ _ h => h) rfl rfl (wantedS_sound j0 (by kernel_rfl)) rfl (by decide) (by kernel_rfl) (by kernel_rfl) j0 cl.plOk (by rfl) (by rfl) (by rfl) n0 (by rfl) vh vx (by kernel_rfl) fun x7 (p3 : Kn 228 (K3e16 d e f which l g ai aj x_v10 aq ar a6 a9) ((tP 89 5 0) :: (tI 88 x_v10) :: (tS 87 a_l l.length c_l) :: (tB 86 true) :: (tB 69 true) :: (tI 14 x_v10) :: (K3m23 a x50 b x35 a_l l c_l)) x7) => ?_
           refine Dr [22, 23, 24, 25, 26, 27, 28] (dn 28) ((tB 96 (x89.sg == x42.number)) :: (tB 69 true) :: (tI 14 x_v10) :: (K3m23 a x50 b x35 a_l l c_l)) p3 cm fun ly j1 => ?_
           rcases Bool.eq_false_or_eq_true ((x89.sg == x42.number)) with dp | dp
           ·
            rw [dp, cond_true] at ah
            have p4 : Kn 228 (K3e16 d e f which l g ai aj x_v10 aq ar a6 a9) ((tB 96 true) :: (tB 69 true) :: (tI 14 x_v10) :: (K3m23 a x50 b x35 a_l l c_l)) ly := (j1.setB 96 true (by rfl) dp).kp
            refine Dr [29, 30] (dn 30) ((tI 98 x_v10) :: (tS 97 a_l l.length c_l) :: (tB 96 true) :: (tB 69 true) :: (tI 14 x_v10) :: (K3m23 a x50 b x35 a_l l c_l)) p4 cm fun acg j2 => ?_
            obtain ⟨x99, ex99, ah⟩ := bnd ah
            obtain ⟨vi, vy, xa⟩ := idx_some ex99
            obtain ⟨bw, cb, z7, n1, wu, ok⟩ := hr_l.get (by decide) xa
            obtain ⟨_, _, rfl, rfl, ⟨_, _, rfl, rfl, ⟨_, _, rfl, rfl, ⟨_, _, rfl, rfl, ⟨_, _, rfl, rfl, rfl⟩⟩⟩⟩⟩ := wu
            have cn : Mem ⟨w, h, noX⟩ b0 (K3e17 d e f which l g ai aj x_v10 aq ar a6 a9 bw cb) [⟨(K3c7 more), some 24⟩, ⟨(K3c2 x42), none⟩, ⟨(K3c2 x42), some 24⟩, ⟨(K3c3 x72), none⟩, ⟨(K3c4 x79), none⟩, ⟨(K3c5 x89), none⟩, ⟨(K3c6 x99), none⟩] [] (World.drew e0) := cm.addPlc (cs := (K3c6 x99)) (fun j c hj => ok j _ (map_get hj)) rfl (by kernel_rfl) (by kernel_rfl)
            refine D_index 31 (x_v10) (K3c6 x99) (fun _ _ _ _ _ h => h) rfl rfl (wantedS_sound j2 (by kernel_rfl)) rfl (by decide) (by kernel_rfl) (by kernel_rfl) j2 cm.plOk (by rfl) (by rfl) (by rfl) n1 (by rfl) vi vy (by kernel_rfl) fun x9 (p6 : Kn 228 (K3e17 d e f which l g ai aj x_v10 aq ar a6 a9 bw cb) ((tP 99 6 0) :: (tI 98 x_v10) :: (tS 97 a_l l.length c_l) :: (tB 96 true) :: (tB 69 true) :: (tI 14 x_v10) :: (K3m23 a x50 b x35 a_l l c_l)) x9) => ?_
            refine Dr [32, 33, 34, 35, 36, 37, 38] (dn 38) ((tB 106 (decide (x99.minute ≥ x42.minute))) :: (tB 69 true) :: (tI 14 x_v10) :: (K3m23 a x50 b x35 a_l l c_l)) p6 cn fun l0 j3 => ?_
            rcases Bool.eq_false_or_eq_true (decide (x99.minute ≥ x42.minute)) with dq | dq
            ·
             rw [dq, cond_true] at ah
             have p7 : Kn 228 (K3e17 d e f which l g ai aj x_v10 aq ar a6 a9 bw cb) ((tB 106 true) :: (tB 69 true) :: (tI 14 x_v10) :: (K3m23 a x50 b x35 a_l l c_l)) l0 := (j3.setB 106 true (by rfl) dq).kp
             refine Dr [39, 40] (dn 40) ((tI 108 x_v10) :: (tS 107 a_l l.length c_l) :: (tB 106 true) :: (tB 69 true) :: (tI 14 x_v10) :: (K3m23 a x50 b x35 a_l l c_l)) p7 cn fun ach j4 => ?_
             obtain ⟨x109, ex109, ah⟩ := bnd ah
             obtain ⟨vj, vz, xb⟩ := idx_some ex109
             obtain ⟨i5, lb, z8, n2, wv, ol⟩ := hr_l.get (by decide) xb
             obtain ⟨_, _, rfl, rfl, ⟨_, _, rfl, rfl, ⟨_, _, rfl, rfl, ⟨_, _, rfl, rfl, ⟨_, _, rfl, rfl, rfl⟩⟩⟩⟩⟩ := wv
             have hv : Mem ⟨w, h, noX⟩ b0 [(d, 0), (e, f + (Int.tmod (IntKind.i64.wrap which.n) ((l.length : Nat) : Int) : Int).toNat * 6), (g, 0), (ai, aj + (x_v10 : Int).toNat * 6), (aq, ar + (x_v10 : Int).toNat * 6), (a6, a9 + (x_v10 : Int).toNat * 6), (bw, cb + (x_v10 : Int).toNat * 6), (i5, lb + (x_v10 : Int).toNat * 6)] [⟨(K3c7 more), some 24⟩, ⟨(K3c2 x42), none⟩, ⟨(K3c2 x42), some 24⟩, ⟨(K3c3 x72), none⟩, ⟨(K3c4 x79), none⟩, ⟨(K3c5 x89), none⟩, ⟨(K3c6 x99), none⟩, ⟨(K3c8 x109), none⟩] [] (World.drew e0) := cn.addPlc (cs := (K3c8 x109)) (fun j c hj => ol j _ (map_get hj)) rfl (by kernel_rfl) (by kernel_rfl)
             refine D_index 41 (x_v10) (K3c8 x109) (fun _ _ _ _ _ h => h) rfl rfl (wantedS_sound j4 (by kernel_rfl)) rfl (by decide) (by kernel_rfl) (by kernel_rfl) j4 cn.plOk (by rfl) (by rfl) (by rfl) n2 (by rfl) vj vz (by kernel_rfl) fun ya (p8 : Kn 228 [(d, 0), (e, f + (Int.tmod (IntKind.i64.wrap which.n) ((l.length : Nat) : Int) : Int).toNat * 6), (g, 0), (ai, aj + (x_v10 : Int).toNat * 6), (aq, ar + (x_v10 : Int).toNat * 6), (a6, a9 + (x_v10 : Int).toNat * 6), (bw, cb + (x_v10 : Int).toNat * 6), (i5, lb + (x_v10 : Int).toNat * 6)] ((tP 109 7 0) :: (tI 108 x_v10) :: (tS 107 a_l l.length c_l) :: (tB 106 true) :: (tB 69 true) :: (tI 14 x_v10) :: (K3m23 a x50 b x35 a_l l c_l)) ya) => ?_
             refine Dr [42, 43, 44, 45, 46, 47, 48, 49] (dn 49) ((tB 13 (!(decide (x109.minute ≤ x35)))) :: (tI 14 x_v10) :: (K3m23 a x50 b x35 a_l l c_l)) p8 hv fun aci p9 => ?_
             refine wpD_end (by kernel_rfl) (wp_region_from (Rk 0 3 ((tI 14 (IntKind.i64.wrap (x_v10 + 1))) :: (tB 13 (!(decide (x109.minute ≤ x35)))) :: (K3m23 a x50 b x35 a_l l c_l)) p9 hv fun acj qa => ?_))
             refine wf ?_
             exact Exists.intro ca ⟨Nat.lt_succ_self _, Exists.intro (IntKind.i64.wrap (x_v10 + 1)) ⟨(!(decide (x109.minute ≤ x35))), _, _, rfl, ((qa.keep [14, 13, 11, 10, 9, 6, 0] (by rfl)).cut 3 (by kernel_rfl)), (hv.cutPl 3 (by kernel_rfl)), b2, ah⟩⟩
            ·
             rw [dq, cond_false] at ah
             have qb : Kn 228 (K3e17 d e f which l g ai aj x_v10 aq ar a6 a9 bw cb) ((tB 106 false) :: (tB 69 true) :: (tI 14 x_v10) :: (K3m23 a x50 b x35 a_l l c_l)) l0 := (j3.setB 106 false (by rfl) dq).kp
             refine Dr [39, 40, 41, 42, 43, 44, 45, 46, 47, 48, 49] (dn 49) ((tB 13 (!false)) :: (tI 14 x_v10) :: (K3m23 a x50 b x35 a_l l c_l)) qb cn fun ack qc => ?_
             refine wpD_end (by kernel_rfl) (wp_region_from (Rk 0 3 ((tI 14 (IntKind.i64.wrap (x_v10 + 1))) :: (tB 13 (!false)) :: (K3m23 a x50 b x35 a_l l c_l)) qc cn fun acl qd => ?_))
             refine wf ?_
             exact Exists.intro ca ⟨Nat.lt_succ_self _, Exists.intro (IntKind.i64.wrap (x_v10 + 1)) ⟨(!false), _, _, rfl, ((qd.keep [14, 13, 11, 10, 9, 6, 0] (by rfl)).cut 3 (by kernel_rfl)), (cn.cutPl 3 (by kernel_rfl)), b2, ah⟩⟩
           ·
            rw [dp, cond_false] at ah
            have qe : Kn 228 (K3e16 d e f which l g ai aj x_v10 aq ar a6 a9) ((tB 96 false) :: (tB 69 true) :: (tI 14 x_v10) :: (K3m23 a x50 b x35 a_l l c_l)) ly := (j1.setB 96 false (by rfl) dp).kp
            refine Dr [29, 30, 31, 32, 33, 34, 35, 36, 37, 38, 39, 40, 41, 42, 43, 44, 45, 46, 47, 48, 49] (dn 49) ((tB 13 (!false)) :: (tI 14 x_v10) :: (K3m23 a x50 b x35 a_l l c_l)) qe cm fun acm qg => ?_
            refine wpD_end (by kernel_rfl) (wp_region_from (Rk 0 3 ((tI 14 (IntKind.i64.wrap (x_v10 + 1))) :: (tB 13 (!false)) :: (K3m23 a x50 b x35 a_l l c_l)) qg cm fun acn qh => ?_))
            refine wf ?_
            exact Exists.intro ca ⟨Nat.lt_succ_self _, Exists.intro (IntKind.i64.wrap (x_v10 + 1)) ⟨(!false), _, _, rfl, ((qh.keep [14, 13, 11, 10, 9, 6, 0] (by rfl)).cut 3 (by kernel_rfl)), (cm.cutPl 3 (by kernel_rfl)), b2, ah⟩⟩
          ·
           rw [dm, cond_false] at ah
           have qi : Kn 228 (K3e15 d e f which l g ai aj x_v10 aq ar) ((tB 86 false) :: (tB 69 true) :: (tI 14 x_v10) :: (K3m23 a x50 b x35 a_l l c_l)) lx := (jz.setB 86 false (by rfl) dm).kp
           refine Dr [19, 20, 21, 22, 23, 24, 25, 26, 27, 28, 29, 30, 31, 32, 33, 34, 35, 36, 37, 38, 39, 40, 41, 42, 43, 44, 45, 46, 47, 48, 49] (dn 49) ((tB 13 (!false)) :: (tI 14 x_v10) :: (K3m23 a x50 b x35 a_l l c_l)) qi cl fun aco qj => ?_
           refine wpD_end (by kernel_rfl) (wp_region_from (Rk 0 3 ((tI 14 (IntKind.i64.wrap (x_v10 + 1))) :: (tB 13 (!false)) :: (K3m23 a x50 b x35 a_l l c_l)) qj cl fun acp qk => ?_))
           refine wf ?_
           exact Exists.intro ca ⟨Nat.lt_succ_self _, Exists.intro (IntKind.i64.wrap (x_v10 + 1)) ⟨(!false), _, _, rfl, ((qk.keep [14, 13, 11, 10, 9, 6, 0] (by rfl)).cut 3 (by kernel_rfl)), (cl.cutPl 3 (by kernel_rfl)), b2, ah⟩⟩
         ·
          rw [dl, cond_false] at ah
          have ql : Kn 228 (K3e10 d e f which l g ai aj x_v10) ((tB 76 false) :: (tB 69 true) :: (tI 14 x_v10) :: (K3m23 a x50 b x35 a_l l c_l)) lw := (jx.setB 76 false (by rfl) dl).kp
          refine Dr [9, 10, 11, 12, 13, 14, 15, 16, 17, 18, 19, 20, 21, 22, 23, 24, 25, 26, 27, 28, 29, 30, 31, 32, 33, 34, 35, 36, 37, 38, 39, 40, 41, 42, 43, 44, 45, 46, 47, 48, 49] (dn 49) ((tB 13 (!false)) :: (tI 14 x_v10) :: (K3m23 a x50 b x35 a_l l c_l)) ql ck fun acq qm => ?_
          refine wpD_end (by kernel_rfl) (wp_region_from (Rk 0 3 ((tI 14 (IntKind.i64.wrap (x_v10 + 1))) :: (tB 13 (!false)) :: (K3m23 a x50 b x35 a_l l c_l)) qm ck fun acs qn => ?_))
          refine wf ?_
          exact Exists.intro ca ⟨Nat.lt_succ_self _, Exists.intro (IntKind.i64.wrap (x_v10 + 1)) ⟨(!false), _, _, rfl, ((qn.keep [14, 13, 11, 10, 9, 6, 0] (by rfl)).cut 3 (by kernel_rfl)), (ck.cutPl 3 (by kernel_rfl)), b2, ah⟩⟩
        ·
         rw [dk, cond_false] at ah
         have qo : Kn 228 (K3e1 d e f which l g) ((tB 69 false) :: (tI 14 x_v10) :: (K3m23 a x50 b x35 a_l l c_l)) lv := (jv.setB 69 false (by rfl) dk).kp
         refine Dr [2, 3, 4, 5, 6, 7, 8, 9, 10, 11, 12, 13, 14, 15, 16, 17, 18, 19, 20, 21, 22, 23, 24, 25, 26, 27, 28, 29, 30, 31, 32, 33, 34, 35, 36, 37, 38, 39, 40, 41, 42, 43, 44, 45, 46, 47, 48, 49] (dn 49) ((tB 13 false) :: (tI 14 x_v10) :: (K3m23 a x50 b x35 a_l l c_l)) qo bd fun act qp => ?_
         refine wpD_end (by kernel_rfl) (wp_region_from (Rk 0 3 ((tI 14 (IntKind.i64.wrap (x_v10 + 1))) :: (tB 13 false) :: (K3m23 a x50 b x35 a_l l c_l)) qp bd fun acu qq => ?_))
         refine wf ?_
         exact Exists.intro ca ⟨Nat.lt_succ_self _, Exists.intro (IntKind.i64.wrap (x_v10 + 1)) ⟨false, _, _, rfl, qq.kp, bd, b2, ah⟩⟩
       ·
        rw [gh, cond_false] at ah
        refine wp_exit ?_
        obtain rfl := Option.some.inj ah
        exact Exists.intro _ ⟨_, rfl, g4.kp, bd, b2⟩
     ·
      rintro _ af5 ⟨ik, f8, rfl, qr, hw, kl⟩
      replace ag := ag.mono kl
      refine wp_seq (wp_region_from (Rk 0 3 ((tI 119 x42.number) :: (tS 117 a x50.1.length b) :: (tB 13 cx) :: (K3m23 a x50 b x35 a_l l c_l)) qr hw fun acv qt => ?_))
      obtain ⟨x120, ex120, H⟩ := bnd H
      refine wl fun K hK => ?_
      refine wc [.c (.slice a x50.1.length b), .c (.int .i64 x42.number)] qt hw (ref_Has_ok n hw.has x50.1 ag x42.number ex120) fun afa da af6 ms km ei => ?_
      replace hr_l := hr_l.mono (Heap.le_trans kl km)
      replace ag := ag.mono km
      obtain rfl := ms
      refine ⟨.one (.c (.bool x120)), rfl, fun yb (qv : Kn 228 (K3e1 d e f which l g) ((tB 120 x120) :: (tI 119 x42.number) :: (tS 117 a x50.1.length b) :: (tB 13 cx) :: (K3m23 a x50 b x35 a_l l c_l)) yb) => hK _ _ ?_⟩
      refine Rk 4 2 ((tB 122 (!(x120 == cx))) :: (K3m23 a x50 b x35 a_l l c_l)) qv ei fun acw g5 => ?_
      refine wf (wC ((!(x120 == cx))) g5 (fun gi => ?_) (fun gi => ?_))
      ·
       rw [gi, cond_true] at H
       refine wp_seq (wp_region_from (Rk 0 1 [(tB 8 false)] g5 ei fun acx qw => ?_))
       refine wf (wp_ret ?_)
       obtain rfl := Option.some.inj H
       exact rt (.one (.c (.bool false))) qw ei rfl
      ·
       rw [gi, cond_false] at H
       refine wp_skip (wp_seq (wp_region_from (Rk 0 4 ((tP 126 0 3) :: (125, .one (.c (.int .u8 (Int.tmod more.kind.n 2)))) :: (K3m23 a x50 b x35 a_l l c_l)) g5 ei fun yc qx => ?_)))
       refine wl fun K hK => ?_
       refine wst 0 3 (.c (.int .u8 (Int.tmod more.kind.n 2))) (K3c9 more) qx ei fun i2 qy (fo : Mem ⟨w, h, noX⟩ da (K3e1 d e f which l g) (K3p20 more x42) [] i2) => hK _ _ ?_
       have qz : Kn 228 (K3e1 d e f which l g) (K3m23 a x50 b x35 a_l l c_l) yc := qy.kp
       refine wf (wp_seq (wp_region_G (by kernel_rfl) ?_))
       replace fo := fo.drew
       refine wpG_of_D [] (K3e1 d e f which l g) (K3p20 more x42) ?_
       refine Dr [1, 3] [3, 1] ((tA 130 (K3c9 more)) :: (tS 128 a_l l.length c_l) :: (K3m23 a x50 b x35 a_l l c_l)) qz fo fun acz q0 => ?_
       obtain ⟨x129, ex129, H⟩ := bnd H
       obtain ⟨x132, ex132, H⟩ := bnd H
       have u6 : Mem ⟨w, h, noX⟩ da (K3e1 d e f which l g) (K3p20 more x42) [⟨none, 0, 0, 24, 6, [], 0⟩] (World.drew i2) := fo.nilRow 24 6
       have u7 : Mem ⟨w, h, noX⟩ da (K3e1 d e f which l g) (K3p20 more x42) [⟨none, 0, 0, 24, 6, [], 0⟩, ⟨none, 0, 0, 24, 6, [], 0⟩] (World.drew i2) := u6.nilRow 24 6
       refine D_share (FlT 228 ⟨w, h, noX⟩ (K3e1 d e f which l g) (K3p20 more x42) (K3p20 more x42) [] [⟨4, 131, 24, 6, 1, (K3c9 more)⟩] [2, 0, 3, 1] (fun mm jo rw => ∃ (bg : Option Addr) (bm : Nat) (am : List Value), mm = ((tS 129 bg x129.length bm) :: (tA 130 (K3c9 more)) :: (K3m23 a x50 b x35 a_l l c_l)) ∧ rw = [⟨bg, x129.length, bm, 24, 6, am, 0⟩] ∧ Heap.le da jo ∧ Cells jo x129 am)) ?_ (fun xl => ?_)
       ·
        refine key_float (D_float [(5, [true])] ?_ (fun _ _ _ hm => hm.plOk) (by kernel_rfl) (by kernel_rfl) ⟨?_, trivial⟩)
        ·
         rintro _ _ _ ⟨bg, bm, am, rfl, rfl, _, _⟩
         exact ⟨⟨⟨_, _, _, rfl, rfl, rfl, rfl, rfl, by rfl, by rfl, by rfl, rfl, by kernel_rfl⟩, trivial⟩, by kernel_rfl⟩
        ·
         intro aai aam yd db abi abm zl nj me k6 mi d0 fp
         obtain ⟨ja, rfl⟩ := len1 nj
         obtain ⟨ak, rfl⟩ := len1 me
         obtain rfl : ja = true := by cases ja <;> first | rfl | exact (Bool.false_ne_true k6).elim
         obtain ⟨bg, bm, am, rfl, rfl, kn, om⟩ := mi
         replace d0 := d0.req [true] (by kernel_rfl) k6 rfl
         have au : Cells db ([(Card.mk more.bus more.number more.minute (IK.mk (Int.tmod more.kind.n 2)) more.part more.sg)] : List Card) ([.int .i64 more.bus, .int .i64 more.number, .int .i64 more.minute, .int .u8 (Int.tmod more.kind.n 2), .int .i64 more.part, .int .i64 more.sg] : List Value) := ⟨_, _, rfl, ((rep_pair rep_int (rep_pair rep_int (rep_pair rep_int (rep_pair rep_ik (rep_pair rep_int rep_int))))) : rep db ((Card.mk more.bus more.number more.minute (IK.mk (Int.tmod more.kind.n 2)) more.part more.sg) : Card) _), rfl⟩
         replace d0 : Kn 228 (K3e1 d e f which l g) ([(tS 129 bg x129.length bm), (tA 130 (K3c9 more)), (tS 11 a x50.1.length b), (tP 10 2 0), (tI 9 x35), (tP 6 0 0), (tS 0 a_l l.length c_l), (tS 131 ak 1 1)] ++ flM [⟨4, 131, 24, 6, 1, (K3c9 more)⟩] [true] [ak]) yd := d0
         replace fp : Mem ⟨w, h, noX⟩ db (K3e1 d e f which l g) (K3p20 more x42) [⟨bg, x129.length, bm, 24, 6, am, 0⟩, ⟨ak, 1, 1, 24, 6, ([.int .i64 more.bus, .int .i64 more.number, .int .i64 more.minute, .int .u8 (Int.tmod more.kind.n 2), .int .i64 more.part, .int .i64 more.sg] : List Value), 0⟩] zl := fp
         refine ⟨_, rfl, rfl, fun K hK => ?_⟩
         obtain ⟨ia, ux⟩ := app_some ex132
         refine wp_append 0 48 1 _ (x132.length) _ ([.int .i64 more.bus, .int .i64 more.number, .int .i64 more.minute, .int .u8 (Int.tmod more.kind.n 2), .int .i64 more.part, .int .i64 more.sg] : List Value) d0 fp rfl rfl (by decide) rfl (by rfl) (by kernel_rfl) (by rfl) (by rfl) (Cells.len au) (fp.rowCell (i := 1) rfl) au.one (by rw [ia]; simp <;> omega) (by rw [ia]; exact ux) (by decide) fun ac ae jl ye mb o1 (q2 : Kn 228 (K3e1 d e f which l g) ([(tS 132 ac x132.length ae), (tS 129 bg x129.length bm), (tA 130 (K3c9 more)), (tS 11 a x50.1.length b), (tP 10 2 0), (tI 9 x35), (tP 6 0 0), (tS 0 a_l l.length c_l), (tS 131 ak 1 1)] ++ flM [⟨4, 131, 24, 6, 1, (K3c9 more)⟩] [true] [ak]) ye) (ek : Mem ⟨w, h, noX⟩ db (K3e1 d e f which l g) (K3p20 more x42) [⟨ac, x132.length, ae, 24, 6, (am ++ ([.int .i64 more.bus, .int .i64 more.number, .int .i64 more.minute, .int .u8 (Int.tmod more.kind.n 2), .int .i64 more.part, .int .i64 more.sg] : List Value)), jl⟩, ⟨ak, 1, 1, 24, 6, ([.int .i64 more.bus, .int .i64 more.number, .int .i64 more.minute, .int .u8 (Int.tmod more.kind.n 2), .int .i64 more.part, .int .i64 more.sg] : List Value), 0⟩] mb) => ?_
         have av : Cells db x132 (am ++ ([.int .i64 more.bus, .int .i64 more.number, .int .i64 more.minute, .int .u8 (Int.tmod more.kind.n 2), .int .i64 more.part, .int .i64 more.sg] : List Value)) := by rw [ia]; exact Cells.append om au
         obtain rfl : jl = 0 := Nat.le_zero.1 o1
         refine hK _ _ ek.plOk ?_
         refine D_runF [6] (6 :: 5 :: (flD [⟨4, 131, 24, 6, 1, (K3c9 more)⟩] [true] ++ [2, 0, 3, 1])) ([(tS 15 ac x132.length ae), (tS 132 ac x132.length ae), (tS 129 bg x129.length bm), (tA 130 (K3c9 more)), (tS 11 a x50.1.length b), (tP 10 2 0), (tI 9 x35), (tP 6 0 0), (tS 0 a_l l.length c_l), (tS 131 ak 1 1)] ++ flM [⟨4, 131, 24, 6, 1, (K3c9 more)⟩] [true] [ak]) (fun _ _ _ _ _ h => h) q2 ek.plOk (by kernel_rfl) (by rfl) (by kernel_rfl) fun l1 (q3 : Kn 228 (K3e1 d e f which l g) ([(tS 15 ac x132.length ae), (tS 132 ac x132.length ae), (tS 129 bg x129.length bm), (tA 130 (K3c9 more)), (tS 11 a x50.1.length b), (tP 10 2 0), (tI 9 x35), (tP 6 0 0), (tS 0 a_l l.length c_l), (tS 131 ak 1 1)] ++ flM [⟨4, 131, 24, 6, 1, (K3c9 more)⟩] [true] [ak]) l1) => ?_
         have q4 : Kn 228 (K3e1 d e f which l g) ((tS 15 ac x132.length ae) :: (K3m23 a x50 b x35 a_l l c_l)) l1 := q3.kp
         refine wpD_end (by kernel_rfl) (wp_seq (wp_seq (wp_region_from (Rk 0 1 ((tS 133 ac x132.length ae) :: (tS 15 ac x132.length ae) :: (K3m23 a x50 b x35 a_l l c_l)) q4 ek fun ac0 q5 => ?_))))
         obtain ⟨jp, fl, wj, fq⟩ := ek.settle (i := 0) rfl
         replace av := av.mono fl
         replace fq : Mem ⟨w, h, noX⟩ jp (K3e1 d e f which l g) (K3p20 more x42) (K3r21 ac x132 ae am more ak) mb := fq
         have ao : RepS jp ac ae x132 := ⟨_, av, wj, ek.rowCap (i := 0) rfl⟩
         obtain ⟨x134, ex134, H⟩ := bnd H
         refine wl fun K hK => ?_
         refine wc [.c (.slice ac x132.length ae)] q5 fq (law_ready_ok n fq.has x132 ao ex134) fun afb aas af8 mt d4 b5 => ?_
         replace hr_l := hr_l.mono (Heap.le_trans (Heap.le_trans kn fl) d4)
         replace ag := ag.mono (Heap.le_trans (Heap.le_trans kn fl) d4)
         replace ao := ao.mono d4
         replace av := av.mono d4
         replace au := au.mono (Heap.le_trans fl d4)
         obtain rfl := mt
         refine ⟨.one (.c (.bool x134)), rfl, fun yf (q6 : Kn 228 (K3e1 d e f which l g) ((tB 134 x134) :: (tS 133 ac x132.length ae) :: (tS 15 ac x132.length ae) :: (K3m23 a x50 b x35 a_l l c_l)) yf) => hK _ _ ?_⟩
         refine Rk 2 1 ((tB 135 (!x134)) :: (tS 15 ac x132.length ae) :: (K3m23 a x50 b x35 a_l l c_l)) q6 b5 fun ac1 g7 => ?_
         refine wf (wC ((!x134)) g7 (fun gk => ?_) (fun gk => ?_))
         ·
          rw [gk, cond_true] at H
          refine wp_seq (wp_region_from ?_)
          obtain ⟨x136, ex136, H⟩ := bnd H
          refine wl fun K hK => ?_
          refine wc [] g7 b5 (law_wakes_ok n b5.has  ex136) fun afc aat af9 mu abc kv => ?_
          obtain rfl := mu
          refine ⟨.one (.c (.bool x136)), rfl, fun yg (q7 : Kn 228 (K3e1 d e f which l g) ((tB 136 x136) :: (tB 135 (!x134)) :: (tS 15 ac x132.length ae) :: (K3m23 a x50 b x35 a_l l c_l)) yg) => hK _ _ ?_⟩
          refine Rk 1 1 [(tB 8 x136)] q7 kv fun ac2 q8 => ?_
          refine wf (wp_ret ?_)
          obtain rfl := Option.some.inj H
          exact rt (.one (.c (.bool x136))) q8 kv rfl
         ·
          rw [gk, cond_false] at H
          refine wp_skip (wp_seq (wp_region_G (by kernel_rfl) ?_))
          replace b5 := b5.drew
          refine wpG_of_D [] (K3e1 d e f which l g) (K3p20 more x42) ?_
          refine Dr [0, 2, 3, 4] [4, 3, 2, 0] ((tI 142 x35) :: (tI 141 x42.bus) :: (tS 138 ac x132.length ae) :: (tS 15 ac x132.length ae) :: (tS 11 a x50.1.length b) :: (K3m29 x35 a_l l c_l)) g7 b5 fun ac3 q9 => ?_
          obtain ⟨x139, ex139, H⟩ := bnd H
          refine Dl 1 fun K hK => ?_
          refine wc [.c (.slice ac x132.length ae)] q9 b5 (law_Cards_ok n b5.has x132 ao ex139) fun afe aau aga mv d5 hx => ?_
          obtain ⟨e2, e7, rfl, v8⟩ := mv
          refine ⟨.one (.c (.slice e2 x139.length e7)), rfl, fun yh (ra : Kn 228 (K3e1 d e f which l g) ((tS 139 e2 x139.length e7) :: (tI 142 x35) :: (tI 141 x42.bus) :: (tS 138 ac x132.length ae) :: (tS 15 ac x132.length ae) :: (tS 11 a x50.1.length b) :: (K3m29 x35 a_l l c_l)) yh) => hK _ _ hx.plOk ?_⟩
          obtain ⟨x143, ex143, H⟩ := bnd H
          refine Dl 5 fun K hK => ?_
          refine wc [.c (.slice e2 x139.length e7), .c (.int .i64 x42.bus), .c (.int .i64 x35)] ra hx (pit_Open_ok n hx.has x139 v8 x42.bus x35 ex143) fun aff aaw agb mw d6 el => ?_
          replace hr_l := hr_l.mono (Heap.le_trans d5 d6)
          obtain ⟨_, _, rfl, ⟨y, aa, rfl, a4⟩, rfl⟩ := mw
          refine ⟨.tup [.c (.slice y x143.1.length aa), .c (.int .i64 x143.2)], rfl, fun yi (rb : Kn 228 (K3e1 d e f which l g) ((143, .tup [.c (.slice y x143.1.length aa), .c (.int .i64 x143.2)]) :: (tS 139 e2 x139.length e7) :: (tI 142 x35) :: (tI 141 x42.bus) :: (tS 138 ac x132.length ae) :: (tS 15 ac x132.length ae) :: (tS 11 a x50.1.length b) :: (K3m29 x35 a_l l c_l)) yi) => hK _ _ el.plOk ?_⟩
          refine Dr [6, 7, 8, 9, 10] [10, 9, 8, 7, 6, 5, 1, 4, 3, 2, 0] ((tI 17 x143.2) :: (tS 16 y x143.1.length aa) :: (tS 15 ac x132.length ae) :: (tS 11 a x50.1.length b) :: (K3m29 x35 a_l l c_l)) rb el fun ac4 rc => ?_
          refine wpD_end (by kernel_rfl) (wp_seq (wp_region_from (Rk 0 1 ((tS 147 a_l l.length c_l) :: (tI 17 x143.2) :: (tS 16 y x143.1.length aa) :: (tS 15 ac x132.length ae) :: (K3m30 a x50 b x35)) rc el fun ac5 rd => ?_)))
          obtain ⟨x148, ex148, H⟩ := bnd H
          refine wl fun K hK => ?_
          refine wc [.c (.slice a_l l.length c_l)] rd el (law_Cards_ok n el.has l hr_l ex148) fun afg aax agd my d7 hy => ?_
          obtain ⟨cy, c6, rfl, v9⟩ := my
          refine ⟨.one (.c (.slice cy x148.length c6)), rfl, fun yj (re : Kn 228 (K3e1 d e f which l g) ((tS 148 cy x148.length c6) :: (tS 147 a_l l.length c_l) :: (tI 17 x143.2) :: (tS 16 y x143.1.length aa) :: (tS 15 ac x132.length ae) :: (K3m30 a x50 b x35)) yj) => hK _ _ ?_⟩
          refine Rk 2 1 ((tI 149 x35) :: (tS 148 cy x148.length c6) :: (tI 17 x143.2) :: (tS 16 y x143.1.length aa) :: (tS 15 ac x132.length ae) :: (K3m30 a x50 b x35)) re hy fun ac6 rf => ?_
          obtain ⟨x150, ex150, H⟩ := bnd H
          refine wl fun K hK => ?_
          refine wc [.c (.slice cy x148.length c6), .c (.int .i64 x35)] rf hy (pit_FitL_ok n hy.has x148 v9 x35 ex150) fun afh aay age mz d8 fr => ?_
          replace ao := ao.mono (Heap.le_trans (Heap.le_trans (Heap.le_trans d5 d6) d7) d8)
          obtain ⟨_, _, rfl, ⟨k, o, rfl, a2⟩, rfl⟩ := mz
          refine ⟨.tup [.c (.slice k x150.1.length o), .c (.int .i64 x150.2)], rfl, fun yk (rh : Kn 228 (K3e1 d e f which l g) ((150, .tup [.c (.slice k x150.1.length o), .c (.int .i64 x150.2)]) :: (tI 149 x35) :: (tS 148 cy x148.length c6) :: (tI 17 x143.2) :: (tS 16 y x143.1.length aa) :: (tS 15 ac x132.length ae) :: (K3m30 a x50 b x35)) yk) => hK _ _ ?_⟩
          refine Rk 4 5 ((tI 19 x150.2) :: (tS 18 k x150.1.length o) :: (tI 17 x143.2) :: (tS 16 y x143.1.length aa) :: (tS 15 ac x132.length ae) :: (K3m30 a x50 b x35)) rh fr fun ac7 ri => ?_
          refine wf (wp_seq (wp_region_from (Rk 0 1 ((tS 154 ac x132.length ae) :: (tI 19 x150.2) :: (tS 18 k x150.1.length o) :: (tI 17 x143.2) :: (tS 16 y x143.1.length aa) :: (K3m30 a x50 b x35)) ri fr fun ac8 rj => ?_)))
          obtain ⟨x155, ex155, H⟩ := bnd H
          refine wl fun K hK => ?_
          refine wc [.c (.slice ac x132.length ae)] rj fr (law_Cards_ok n fr.has x132 ao ex155) fun afi aaz agf m0 ct hz => ?_
          obtain ⟨cz, c7, rfl, wd⟩ := m0
          refine ⟨.one (.c (.slice cz x155.length c7)), rfl, fun ym (rk : Kn 228 (K3e1 d e f which l g) ((tS 155 cz x155.length c7) :: (tS 154 ac x132.length ae) :: (tI 19 x150.2) :: (tS 18 k x150.1.length o) :: (tI 17 x143.2) :: (tS 16 y x143.1.length aa) :: (K3m30 a x50 b x35)) ym) => hK _ _ ?_⟩
          refine Rk 2 1 [(tI 156 x35), (tS 155 cz x155.length c7), (tI 19 x150.2), (tS 18 k x150.1.length o), (tI 17 x143.2), (tS 16 y x143.1.length aa), (tS 11 a x50.1.length b), (tP 6 0 0)] rk hz fun ac9 rm => ?_
          obtain ⟨x157, ex157, H⟩ := bnd H
          refine wl fun K hK => ?_
          refine wc [.c (.slice cz x155.length c7), .c (.int .i64 x35)] rm hz (pit_FitL_ok n hz.has x155 wd x35 ex157) fun afj np agh m1 cu bq => ?_
          replace ag := ag.mono (Heap.le_trans (Heap.le_trans (Heap.le_trans (Heap.le_trans (Heap.le_trans d5 d6) d7) d8) ct) cu)
          replace ao := ao.mono (Heap.le_trans ct cu)
          replace a4 := a4.mono (Heap.le_trans (Heap.le_trans (Heap.le_trans d7 d8) ct) cu)
          replace a2 := a2.mono (Heap.le_trans ct cu)
          replace av := av.mono (Heap.le_trans (Heap.le_trans (Heap.le_trans (Heap.le_trans (Heap.le_trans d5 d6) d7) d8) ct) cu)
          replace au := au.mono (Heap.le_trans (Heap.le_trans (Heap.le_trans (Heap.le_trans (Heap.le_trans d5 d6) d7) d8) ct) cu)
          obtain ⟨_, _, rfl, ⟨q, u, rfl, ba⟩, rfl⟩ := m1
          refine ⟨.tup [.c (.slice q x157.1.length u), .c (.int .i64 x157.2)], rfl, fun yn (rn : Kn 228 (K3e1 d e f which l g) [(157, .tup [.c (.slice q x157.1.length u), .c (.int .i64 x157.2)]), (tI 156 x35), (tS 155 cz x155.length c7), (tI 19 x150.2), (tS 18 k x150.1.length o), (tI 17 x143.2), (tS 16 y x143.1.length aa), (tS 11 a x50.1.length b), (tP 6 0 0)] yn) => hK _ _ ?_⟩
          refine Rk 4 5 [(tI 21 x157.2), (tS 20 q x157.1.length u), (tI 19 x150.2), (tS 18 k x150.1.length o), (tI 17 x143.2), (tS 16 y x143.1.length aa), (tS 11 a x50.1.length b), (tP 6 0 0)] rn bq fun adb ro => ?_
          refine wf (wp_seq (wp_seq ?_))
          obtain ⟨lc, cc, H⟩ := bnd H
          refine wp_mid' (fun a' w' => ∃ (im : Array Value) (dc : Heap), a' = ⟨im, []⟩ ∧ Kn 228 (K3e1 d e f which l g) [(tS 20 q x157.1.length u), (tS 18 k x150.1.length o), (tS 16 y x143.1.length aa), (tS 11 a x50.1.length b), (tP 6 0 0), (tB 169 lc)] im ∧ Mem ⟨w, h, noX⟩ dc (K3e1 d e f which l g) (K3p20 more x42) (K3r21 ac x132 ae am more ak) w' ∧ Heap.le np dc) ?_ ?_
          ·
           refine wp_region_from (Rk 0 3 [(tB 162 (x143.2 != 0)), (tI 21 x157.2), (tS 20 q x157.1.length u), (tI 19 x150.2), (tS 18 k x150.1.length o), (tS 16 y x143.1.length aa), (tS 11 a x50.1.length b), (tP 6 0 0)] ro bq fun l2 j6 => ?_)
           rcases Bool.eq_false_or_eq_true ((x143.2 != 0)) with ds | ds
           ·
            rw [ds, cond_true] at cc
            have rq : Kn 228 (K3e1 d e f which l g) [(tB 162 true), (tI 21 x157.2), (tS 20 q x157.1.length u), (tI 19 x150.2), (tS 18 k x150.1.length o), (tS 16 y x143.1.length aa), (tS 11 a x50.1.length b), (tP 6 0 0)] l2 := (j6.setB 162 true (by rfl) ds).kp
            refine Rk 3 7 ((tB 169 true) :: (K3m24 q x157 u k x150 o y x143 aa a x50 b)) rq bq fun adc rr => ?_
            refine wf ?_
            obtain rfl := Option.some.inj cc
            exact Exists.intro _ ⟨_, rfl, rr.kp, bq, (Heap.le_refl _)⟩
           ·
            rw [ds, cond_false] at cc
            have rs : Kn 228 (K3e1 d e f which l g) [(tB 162 false), (tI 21 x157.2), (tS 20 q x157.1.length u), (tI 19 x150.2), (tS 18 k x150.1.length o), (tS 16 y x143.1.length aa), (tS 11 a x50.1.length b), (tP 6 0 0)] l2 := (j6.setB 162 false (by rfl) ds).kp
            refine Rk 3 4 ((tB 166 (x150.2 != 0)) :: (tI 21 x157.2) :: (K3m24 q x157 u k x150 o y x143 aa a x50 b)) rs bq fun l3 j7 => ?_
            rcases Bool.eq_false_or_eq_true ((x150.2 != 0)) with dt | dt
            ·
             rw [dt, cond_true] at cc
             have ru : Kn 228 (K3e1 d e f which l g) ((tB 166 true) :: (tI 21 x157.2) :: (K3m24 q x157 u k x150 o y x143 aa a x50 b)) l3 := (j7.setB 166 true (by rfl) dt).kp
             refine Rk 7 3 ((tB 169 true) :: (K3m24 q x157 u k x150 o y x143 aa a x50 b)) ru bq fun add rv => ?_
             refine wf ?_
             obtain rfl := Option.some.inj cc
             exact Exists.intro _ ⟨_, rfl, rv.kp, bq, (Heap.le_refl _)⟩
            ·
             rw [dt, cond_false] at cc
             have rx : Kn 228 (K3e1 d e f which l g) ((tB 166 false) :: (tI 21 x157.2) :: (K3m24 q x157 u k x150 o y x143 aa a x50 b)) l3 := (j7.setB 166 false (by rfl) dt).kp
             refine Rk 7 3 ((tB 169 (x157.2 != 0)) :: (K3m24 q x157 u k x150 o y x143 aa a x50 b)) rx bq fun adf ry => ?_
             refine wf ?_
             obtain rfl := Option.some.inj cc
             exact Exists.intro _ ⟨_, rfl, ry.kp, bq, (Heap.le_refl _)⟩
          ·
           rintro _ agi ⟨im, dc, rfl, g8, fs, cf⟩
           replace ag := ag.mono cf
           replace ao := ao.mono cf
           replace a4 := a4.mono cf
           replace a2 := a2.mono cf
           replace ba := ba.mono cf
           replace av := av.mono cf
           replace au := au.mono cf
           refine wC (lc) g8 (fun gl => ?_) (fun gl => ?_)
           ·
            rw [gl, cond_true] at H
            refine wp_seq (wp_region_from (Rk 0 1 [(tB 8 false)] g8 fs fun adg r0 => ?_))
            refine wf (wp_ret ?_)
            obtain rfl := Option.some.inj H
            exact rt (.one (.c (.bool false))) r0 fs rfl
           ·
            rw [gl, cond_false] at H
            refine wp_skip (wp_seq (wp_seq (wp_region_from (Rk 0 1 ((tI 22 0) :: (K3m24 q x157 u k x150 o y x143 aa a x50 b)) g8 fs fun adh r1 => ?_))))
            refine wf ?_
            obtain ⟨ld, jf, H⟩ := bnd H
            refine wp_mid' (fun a' w' => ∃ (lo : Unit) (io : Array Value) (dd : Heap), a' = ⟨io, []⟩ ∧ Kn 228 (K3e1 d e f which l g) (K3m24 q x157 u k x150 o y x143 aa a x50 b) io ∧ Mem ⟨w, h, noX⟩ dd (K3e1 d e f which l g) (K3p20 more x42) (K3r21 ac x132 ae am more ak) w' ∧ Heap.le dc dd ∧ ld = .go lo) ?_ ?_
            ·
             refine wp_block ?_
             refine wp_loop_n (fun xq a' w' => ∃ (x_v20 : Int) (ip : Array Value) (fd : Heap), a' = ⟨ip, []⟩ ∧ Kn 228 (K3e1 d e f which l g) ((tI 22 x_v20) :: (K3m24 q x157 u k x150 o y x143 aa a x50 b)) ip ∧ Mem ⟨w, h, noX⟩ fd (K3e1 d e f which l g) (K3p20 more x42) (K3r21 ac x132 ae am more ak) w' ∧ Heap.le dc fd ∧ law_PitHeld_l2 xq more x50 x143 x_v20 = some ld) n ?_ ?_
             ·
              exact Exists.intro 0 ⟨_, _, rfl, r1.kp, fs, (Heap.le_refl _), jf⟩
             ·
              rintro ev _ zn ⟨x_v20, ip, fd, rfl, r2, co, be, az⟩
              clear jf
              obtain _ | ev := ev
              ·
               rw [law_PitHeld_l2] at az; cases az
              rw [law_PitHeld_l2] at az
              replace ag := ag.mono be
              replace ao := ao.mono be
              replace a4 := a4.mono be
              replace a2 := a2.mono be
              replace ba := ba.mono be
              replace av := av.mono be
              replace au := au.mono be
              refine wp_seq (wp_seq (wp_region_from (Rk 0 4 ((tB 173 (decide (x_v20 < ((x143.1.length : Nat) : Int)))) :: (tI 22 x_v20) :: (K3m24 q x157 u k x150 o y x143 aa a x50 b)) r2 co fun adi g9 => ?_)))
              refine wf (wC (decide (x_v20 < ((x143.1.length : Nat) : Int))) g9 (fun gm => ?_) (fun gm => ?_))
              ·
               rw [gm, cond_true] at az
               refine wp_skip (wp_seq (wp_block (wp_seq (wp_region_G (by kernel_rfl) ?_))))
               replace co := co.drew
               refine wpG_of_D [] (K3e1 d e f which l g) (K3p20 more x42) ?_
               refine Dr [0, 1, 2] [2, 1, 0] ((tI 178 x_v20) :: (tS 177 y x143.1.length aa) :: (tS 176 a x50.1.length b) :: (tI 22 x_v20) :: (K3m24 q x157 u k x150 o y x143 aa a x50 b)) g9 co fun adj r3 => ?_
               obtain ⟨x179, ex179, az⟩ := bnd az
               obtain ⟨vk, v0, xc⟩ := idx_some ex179
               obtain ⟨bj, bt, z9, n3, ww, oo⟩ := a4.get (by decide) xc
               obtain rfl := ww
               have h0 : Mem ⟨w, h, noX⟩ fd (K3e11 d e f which l g bj bt x_v20) [⟨(K3c9 more), some 24⟩, ⟨(K3c2 x42), none⟩, ⟨(K3c2 x42), some 24⟩, ⟨[.int .i64 x179], none⟩] (K3r21 ac x132 ae am more ak) (World.drew zn) := co.addPlc (cs := [.int .i64 x179]) (fun j c hj => oo j _ (map_get hj)) rfl (by kernel_rfl) (by kernel_rfl)
               refine D_index 3 (x_v20) [.int .i64 x179] (fun _ _ _ _ _ h => h) rfl rfl (rfl) rfl (by decide) (by kernel_rfl) (by kernel_rfl) r3 co.plOk (by rfl) (by rfl) (by rfl) n3 (by rfl) vk v0 (by kernel_rfl) fun yo (r4 : Kn 228 (K3e11 d e f which l g bj bt x_v20) ((tP 179 3 0) :: (tI 178 x_v20) :: (tS 177 y x143.1.length aa) :: (tS 176 a x50.1.length b) :: (tI 22 x_v20) :: (K3m24 q x157 u k x150 o y x143 aa a x50 b)) yo) => ?_
               refine Dr [4] (dn 4) ((tI 180 x179) :: (tS 176 a x50.1.length b) :: (tI 22 x_v20) :: (K3m24 q x157 u k x150 o y x143 aa a x50 b)) r4 h0 fun adk r5 => ?_
               obtain ⟨x181, ex181, az⟩ := bnd az
               refine Dl 5 fun K hK => ?_
               refine wc [.c (.slice a x50.1.length b), .c (.int .i64 x179)] r5 h0 (ref_Has_ok ev h0.has x50.1 ag x179 ex181) fun afl nq zp m3 hq b6 => ?_
               replace a4 := a4.mono hq
               obtain rfl := m3
               refine ⟨.one (.c (.bool x181)), rfl, fun yp (r6 : Kn 228 (K3e11 d e f which l g bj bt x_v20) ((tB 181 x181) :: (tI 180 x179) :: (tS 176 a x50.1.length b) :: (tI 22 x_v20) :: (K3m24 q x157 u k x150 o y x143 aa a x50 b)) yp) => hK _ _ b6.plOk ?_⟩
               refine Dr [6, 7] (dn 7) ((tB 183 (!x181)) :: (tI 22 x_v20) :: (K3m24 q x157 u k x150 o y x143 aa a x50 b)) r6 b6 fun l4 j8 => ?_
               rcases Bool.eq_false_or_eq_true ((!x181)) with du | du
               ·
                rw [du, cond_true] at az
                have r7 : Kn 228 (K3e11 d e f which l g bj bt x_v20) ((tB 183 true) :: (tI 22 x_v20) :: (K3m24 q x157 u k x150 o y x143 aa a x50 b)) l4 := (j8.setB 183 true (by rfl) du).kp
                refine Dr [8, 9] (dn 9) ((tI 185 x_v20) :: (tS 184 y x143.1.length aa) :: (tB 183 true) :: (tI 22 x_v20) :: (K3m24 q x157 u k x150 o y x143 aa a x50 b)) r7 b6 fun adl j9 => ?_
                obtain ⟨x186, ex186, az⟩ := bnd az
                obtain ⟨vl, v1, xd⟩ := idx_some ex186
                obtain ⟨i6, lf, aaa, n4, wx, op⟩ := a4.get (by decide) xd
                obtain rfl := wx
                have em : Mem ⟨w, h, noX⟩ nq [(d, 0), (e, f + (Int.tmod (IntKind.i64.wrap which.n) ((l.length : Nat) : Int) : Int).toNat * 6), (g, 0), (bj, bt + (x_v20 : Int).toNat * 1), (i6, lf + (x_v20 : Int).toNat * 1)] [⟨(K3c9 more), some 24⟩, ⟨(K3c2 x42), none⟩, ⟨(K3c2 x42), some 24⟩, ⟨[.int .i64 x179], none⟩, ⟨[.int .i64 x186], none⟩] (K3r21 ac x132 ae am more ak) zp := b6.addPlc (cs := [.int .i64 x186]) (fun j c hj => op j _ (map_get hj)) rfl (by kernel_rfl) (by kernel_rfl)
                refine D_index 10 (x_v20) [.int .i64 x186] (fun _ _ _ _ _ h => h) rfl rfl (wantedS_sound j9 (by kernel_rfl)) rfl (by decide) (by kernel_rfl) (by kernel_rfl) j9 b6.plOk (by rfl) (by rfl) (by rfl) n4 (by rfl) vl v1 (by kernel_rfl) fun yq (r8 : Kn 228 [(d, 0), (e, f + (Int.tmod (IntKind.i64.wrap which.n) ((l.length : Nat) : Int) : Int).toNat * 6), (g, 0), (bj, bt + (x_v20 : Int).toNat * 1), (i6, lf + (x_v20 : Int).toNat * 1)] ((tP 186 4 0) :: (tI 185 x_v20) :: (tS 184 y x143.1.length aa) :: (tB 183 true) :: (tI 22 x_v20) :: (K3m24 q x157 u k x150 o y x143 aa a x50 b)) yq) => ?_
                refine Dr [11, 12, 13, 14, 15] (dn 15) ((tB 191 (x186 != more.number)) :: (tI 22 x_v20) :: (K3m24 q x157 u k x150 o y x143 aa a x50 b)) r8 em fun adm ha => ?_
                refine wpD_end (by kernel_rfl) (wC ((x186 != more.number)) ha (fun gn => ?_) (fun gn => ?_))
                ·
                 rw [gn, cond_true] at az
                 refine wp_seq (wp_region_from (Rk 0 1 [(tB 8 false)] ha em fun adn r9 => ?_))
                 refine wf (wp_ret ?_)
                 obtain rfl := Option.some.inj az
                 obtain rfl := Option.some.inj H
                 exact rt (.one (.c (.bool false))) r9 em rfl
                ·
                 rw [gn, cond_false] at az
                 refine wp_skip (wp_region_from (Rk 0 3 ((tI 22 (IntKind.i64.wrap (x_v20 + 1))) :: (K3m24 q x157 u k x150 o y x143 aa a x50 b)) ha em fun ado sa => ?_))
                 refine wf ?_
                 exact Exists.intro ev ⟨Nat.lt_succ_self _, Exists.intro (IntKind.i64.wrap (x_v20 + 1)) ⟨_, _, rfl, ((sa.keep [22, 20, 18, 16, 11, 6] (by rfl)).cut 3 (by kernel_rfl)), (em.cutPl 3 (by kernel_rfl)), (Heap.le_trans be hq), az⟩⟩
               ·
                rw [du, cond_false] at az
                have sb : Kn 228 (K3e11 d e f which l g bj bt x_v20) ((tB 183 false) :: (tI 22 x_v20) :: (K3m24 q x157 u k x150 o y x143 aa a x50 b)) l4 := (j8.setB 183 false (by rfl) du).kp
                refine Dr [8, 9, 10, 11, 12, 13, 14, 15] (dn 15) ((tB 191 false) :: (tI 22 x_v20) :: (K3m24 q x157 u k x150 o y x143 aa a x50 b)) sb b6 fun adp ka => ?_
                refine wpD_end (by kernel_rfl) (wC false ka (fun hb => ?_) (fun hb => ?_))
                ·
                 cases hb
                refine wp_skip (wp_region_from (Rk 0 3 ((tI 22 (IntKind.i64.wrap (x_v20 + 1))) :: (K3m24 q x157 u k x150 o y x143 aa a x50 b)) ka b6 fun adq sc => ?_))
                refine wf ?_
                exact Exists.intro ev ⟨Nat.lt_succ_self _, Exists.intro (IntKind.i64.wrap (x_v20 + 1)) ⟨_, _, rfl, ((sc.keep [22, 20, 18, 16, 11, 6] (by rfl)).cut 3 (by kernel_rfl)), (b6.cutPl 3 (by kernel_rfl)), (Heap.le_trans be hq), az⟩⟩
              ·
               rw [gm, cond_false] at az
               refine wp_exit ?_
               obtain rfl := Option.some.inj az
               exact Exists.intro () ⟨_, _, rfl, g9.kp, co, be, rfl⟩
            ·
             rintro _ agj ⟨lo, io, dd, rfl, sd, kx, cg, rfl⟩
             rw [Ex.bind_go] at H
             replace ag := ag.mono cg
             replace ao := ao.mono cg
             replace a4 := a4.mono cg
             replace a2 := a2.mono cg
             replace ba := ba.mono cg
             replace av := av.mono cg
             replace au := au.mono cg
             refine wp_seq (wp_seq (wp_region_from (Rk 0 1 ((tI 23 0) :: (K3m24 q x157 u k x150 o y x143 aa a x50 b)) sd kx fun adr sf => ?_)))
             refine wf ?_
             obtain ⟨lg, jg, H⟩ := bnd H
             refine wp_mid' (fun a' w' => ∃ (lp : Unit) (iq : Array Value) (de : Heap), a' = ⟨iq, []⟩ ∧ Kn 228 (K3e1 d e f which l g) (K3m26 q x157 u k x150 o) iq ∧ Mem ⟨w, h, noX⟩ de (K3e1 d e f which l g) (K3p20 more x42) (K3r21 ac x132 ae am more ak) w' ∧ Heap.le dd de ∧ lg = .go lp) ?_ ?_
             ·
              refine wp_block ?_
              refine wp_loop_n (fun xr a' w' => ∃ (x_v30 : Int) (ir : Array Value) (fe : Heap), a' = ⟨ir, []⟩ ∧ Kn 228 (K3e1 d e f which l g) ((tI 23 x_v30) :: (K3m24 q x157 u k x150 o y x143 aa a x50 b)) ir ∧ Mem ⟨w, h, noX⟩ fe (K3e1 d e f which l g) (K3p20 more x42) (K3r21 ac x132 ae am more ak) w' ∧ Heap.le dd fe ∧ law_PitHeld_l3 xr x50 x143 x_v30 = some lg) n ?_ ?_
              ·
               exact Exists.intro 0 ⟨_, _, rfl, sf.kp, kx, (Heap.le_refl _), jg⟩
              ·
               rintro f2 _ zq ⟨x_v30, ir, fe, rfl, sh, fu, bo, a7⟩
               clear jg
               obtain _ | f2 := f2
               ·
                rw [law_PitHeld_l3] at a7; cases a7
               rw [law_PitHeld_l3] at a7
               replace ag := ag.mono bo
               replace ao := ao.mono bo
               replace a4 := a4.mono bo
               replace a2 := a2.mono bo
               replace ba := ba.mono bo
               replace av := av.mono bo
               replace au := au.mono bo
               refine wp_seq (wp_seq (wp_region_from (Rk 0 4 ((tB 195 (decide (x_v30 < ((x50.1.length : Nat) : Int)))) :: (tI 23 x_v30) :: (K3m24 q x157 u k x150 o y x143 aa a x50 b)) sh fu fun adt hc => ?_)))
               refine wf (wC (decide (x_v30 < ((x50.1.length : Nat) : Int))) hc (fun gp => ?_) (fun gp => ?_))
               ·
                rw [gp, cond_true] at a7
                refine wp_skip (wp_seq (wp_block (wp_seq (wp_region_from (Rk 0 3 ((tI 200 x_v30) :: (tS 199 a x50.1.length b) :: (tS 198 y x143.1.length aa) :: (tI 23 x_v30) :: (K3m24 q x157 u k x150 o y x143 aa a x50 b)) hc fu fun adu sj => ?_)))))
                obtain ⟨x201, ex201, a7⟩ := bnd a7
                obtain ⟨vm, v2, xe⟩ := idx_some ex201
                obtain ⟨f5, ig, aab, n5, wy, oq⟩ := ag.get (by decide) xe
                obtain rfl := wy
                have h2 : Mem ⟨w, h, noX⟩ fe [(d, 0), (e, f + (Int.tmod (IntKind.i64.wrap which.n) ((l.length : Nat) : Int) : Int).toNat * 6), (g, 0), (f5, ig + (x_v30 : Int).toNat * 1)] [⟨(K3c9 more), some 24⟩, ⟨(K3c2 x42), none⟩, ⟨(K3c2 x42), some 24⟩, ⟨[.int .i64 x201], none⟩] (K3r21 ac x132 ae am more ak) zq := fu.addPlc (cs := [.int .i64 x201]) (fun j c hj => oq j _ (map_get hj)) rfl (by kernel_rfl) (by kernel_rfl)
                refine R_index 3 (x_v30) rfl rfl (rfl) rfl (by decide) sj (by rfl) (by rfl) (by rfl) n5 (by rfl) vm v2 (by kernel_rfl) fun ys (sk : Kn 228 [(d, 0), (e, f + (Int.tmod (IntKind.i64.wrap which.n) ((l.length : Nat) : Int) : Int).toNat * 6), (g, 0), (f5, ig + (x_v30 : Int).toNat * 1)] ((tP 201 3 0) :: (tI 200 x_v30) :: (tS 199 a x50.1.length b) :: (tS 198 y x143.1.length aa) :: (tI 23 x_v30) :: (K3m24 q x157 u k x150 o y x143 aa a x50 b)) ys) => ?_
                refine Rk 4 1 ((tI 202 x201) :: (tS 198 y x143.1.length aa) :: (tI 23 x_v30) :: (K3m24 q x157 u k x150 o y x143 aa a x50 b)) sk h2 fun adw sl => ?_
                obtain ⟨x203, ex203, a7⟩ := bnd a7
                refine wl fun K hK => ?_
                refine wc [.c (.slice y x143.1.length aa), .c (.int .i64 x201)] sl h2 (ref_Has_ok f2 h2.has x143.1 a4 x201 ex203) fun afm aa0 agk m4 u4 en => ?_
                obtain rfl := m4
                refine ⟨.one (.c (.bool x203)), rfl, fun yt (sn : Kn 228 [(d, 0), (e, f + (Int.tmod (IntKind.i64.wrap which.n) ((l.length : Nat) : Int) : Int).toNat * 6), (g, 0), (f5, ig + (x_v30 : Int).toNat * 1)] ((tB 203 x203) :: (tI 202 x201) :: (tS 198 y x143.1.length aa) :: (tI 23 x_v30) :: (K3m24 q x157 u k x150 o y x143 aa a x50 b)) yt) => hK _ _ ?_⟩
                refine Rk 6 1 ((tB 204 (!x203)) :: (tI 23 x_v30) :: (K3m24 q x157 u k x150 o y x143 aa a x50 b)) sn en fun adx hd => ?_
                refine wf (wC ((!x203)) hd (fun gq => ?_) (fun gq => ?_))
                ·
                 rw [gq, cond_true] at a7
                 refine wp_seq (wp_region_from (Rk 0 1 [(tB 8 false)] hd en fun ady sp => ?_))
                 refine wf (wp_ret ?_)
                 obtain rfl := Option.some.inj a7
                 obtain rfl := Option.some.inj H
                 exact rt (.one (.c (.bool false))) sp en rfl
                ·
                 rw [gq, cond_false] at a7
                 refine wp_skip (wp_region_from (Rk 0 3 ((tI 23 (IntKind.i64.wrap (x_v30 + 1))) :: (K3m24 q x157 u k x150 o y x143 aa a x50 b)) hd en fun adz sq => ?_))
                 refine wf ?_
                 exact Exists.intro f2 ⟨Nat.lt_succ_self _, Exists.intro (IntKind.i64.wrap (x_v30 + 1)) ⟨_, _, rfl, ((sq.keep [23, 20, 18, 16, 11, 6] (by rfl)).cut 3 (by kernel_rfl)), (en.cutPl 3 (by kernel_rfl)), (Heap.le_trans bo u4), a7⟩⟩
               ·
                rw [gp, cond_false] at a7
                refine wp_exit ?_
                obtain rfl := Option.some.inj a7
                exact Exists.intro () ⟨_, _, rfl, hc.kp, fu, bo, rfl⟩
             ·
              rintro _ agl ⟨lp, iq, de, rfl, sr, ky, d9, rfl⟩
              rw [Ex.bind_go] at H
              replace ao := ao.mono d9
              replace a2 := a2.mono d9
              replace ba := ba.mono d9
              replace av := av.mono d9
              replace au := au.mono d9
              refine wp_seq (wp_seq (wp_region_from (Rk 0 1 ((tI 24 0) :: (K3m26 q x157 u k x150 o)) sr ky fun ad0 ss => ?_)))
              refine wf ?_
              obtain ⟨lh, jh, H⟩ := bnd H
              refine wp_mid' (fun a' w' => ∃ (lq : Unit) (iu : Array Value) (ga : Heap), a' = ⟨iu, []⟩ ∧ Kn 228 (K3e1 d e f which l g) [] iu ∧ Mem ⟨w, h, noX⟩ ga (K3e1 d e f which l g) (K3p20 more x42) (K3r21 ac x132 ae am more ak) w' ∧ Heap.le de ga ∧ lh = .go lq) ?_ ?_
              ·
               refine wp_block ?_
               refine wp_loop_n (fun xs a' w' => ∃ (x_v40 : Int) (iv : Array Value) (ff : Heap), a' = ⟨iv, []⟩ ∧ Kn 228 (K3e1 d e f which l g) ((tI 24 x_v40) :: (K3m26 q x157 u k x150 o)) iv ∧ Mem ⟨w, h, noX⟩ ff (K3e1 d e f which l g) (K3p20 more x42) (K3r21 ac x132 ae am more ak) w' ∧ Heap.le de ff ∧ law_PitHeld_l4 xs more x150 x157 x_v40 = some lh) n ?_ ?_
               ·
                exact Exists.intro 0 ⟨_, _, rfl, ss.kp, ky, (Heap.le_refl _), jh⟩
               ·
                rintro ew _ zr ⟨x_v40, iv, ff, rfl, su, cp, b3, a0⟩
                clear jh
                obtain _ | ew := ew
                ·
                 rw [law_PitHeld_l4] at a0; cases a0
                rw [law_PitHeld_l4] at a0
                replace ao := ao.mono b3
                replace a2 := a2.mono b3
                replace ba := ba.mono b3
                replace av := av.mono b3
                replace au := au.mono b3
                refine wp_seq (wp_seq (wp_region_from (Rk 0 4 ((tB 208 (decide (x_v40 < ((x150.1.length : Nat) : Int)))) :: (tI 24 x_v40) :: (K3m26 q x157 u k x150 o)) su cp fun ad2 he => ?_)))
                refine wf (wC (decide (x_v40 < ((x150.1.length : Nat) : Int))) he (fun gr => ?_) (fun gr => ?_))
                ·
                 rw [gr, cond_true] at a0
                 refine wp_skip (wp_seq (wp_block (wp_seq (wp_region_G (by kernel_rfl) ?_))))
                 replace cp := cp.drew
                 refine wpG_of_D [] (K3e1 d e f which l g) (K3p20 more x42) ?_
                 refine Dr [0, 1, 2] [2, 1, 0] ((tI 213 x_v40) :: (tS 212 k x150.1.length o) :: (tS 211 q x157.1.length u) :: (tI 24 x_v40) :: (K3m26 q x157 u k x150 o)) he cp fun ad3 sv => ?_
                 obtain ⟨x214, ex214, a0⟩ := bnd a0
                 obtain ⟨vn, v3, xf⟩ := idx_some ex214
                 obtain ⟨bk, bu, aac, n6, wz, os⟩ := a2.get (by decide) xf
                 obtain rfl := wz
                 have h3 : Mem ⟨w, h, noX⟩ ff (K3e12 d e f which l g bk bu x_v40) [⟨(K3c9 more), some 24⟩, ⟨(K3c2 x42), none⟩, ⟨(K3c2 x42), some 24⟩, ⟨[.int .i64 x214], none⟩] (K3r21 ac x132 ae am more ak) (World.drew zr) := cp.addPlc (cs := [.int .i64 x214]) (fun j c hj => os j _ (map_get hj)) rfl (by kernel_rfl) (by kernel_rfl)
                 refine D_index 3 (x_v40) [.int .i64 x214] (fun _ _ _ _ _ h => h) rfl rfl (rfl) rfl (by decide) (by kernel_rfl) (by kernel_rfl) sv cp.plOk (by rfl) (by rfl) (by rfl) n6 (by rfl) vn v3 (by kernel_rfl) fun yv (sw : Kn 228 (K3e12 d e f which l g bk bu x_v40) ((tP 214 3 0) :: (tI 213 x_v40) :: (tS 212 k x150.1.length o) :: (tS 211 q x157.1.length u) :: (tI 24 x_v40) :: (K3m26 q x157 u k x150 o)) yv) => ?_
                 refine Dr [4] (dn 4) ((tI 215 x214) :: (tS 211 q x157.1.length u) :: (tI 24 x_v40) :: (K3m26 q x157 u k x150 o)) sw h3 fun ad4 sx => ?_
                 obtain ⟨x216, ex216, a0⟩ := bnd a0
                 refine Dl 5 fun K hK => ?_
                 refine wc [.c (.slice q x157.1.length u), .c (.int .i64 x214)] sx h3 (ref_Has_ok ew h3.has x157.1 ba x214 ex216) fun afn nr zs m5 hr b7 => ?_
                 replace a2 := a2.mono hr
                 obtain rfl := m5
                 refine ⟨.one (.c (.bool x216)), rfl, fun yw (sy : Kn 228 (K3e12 d e f which l g bk bu x_v40) ((tB 216 x216) :: (tI 215 x214) :: (tS 211 q x157.1.length u) :: (tI 24 x_v40) :: (K3m26 q x157 u k x150 o)) yw) => hK _ _ b7.plOk ?_⟩
                 refine Dr [6, 7] (dn 7) ((tB 218 (!x216)) :: (tI 24 x_v40) :: (K3m26 q x157 u k x150 o)) sy b7 fun l5 kb => ?_
                 rcases Bool.eq_false_or_eq_true ((!x216)) with dv | dv
                 ·
                  rw [dv, cond_true] at a0
                  have sz : Kn 228 (K3e12 d e f which l g bk bu x_v40) ((tB 218 true) :: (tI 24 x_v40) :: (K3m26 q x157 u k x150 o)) l5 := (kb.setB 218 true (by rfl) dv).kp
                  refine Dr [8, 9] (dn 9) ((tI 220 x_v40) :: (tS 219 k x150.1.length o) :: (tB 218 true) :: (tI 24 x_v40) :: (K3m26 q x157 u k x150 o)) sz b7 fun ad5 kc => ?_
                  obtain ⟨x221, ex221, a0⟩ := bnd a0
                  obtain ⟨vo, v4, xg⟩ := idx_some ex221
                  obtain ⟨i7, li, aae, n8, w0, ot⟩ := a2.get (by decide) xg
                  obtain rfl := w0
                  have eo : Mem ⟨w, h, noX⟩ nr [(d, 0), (e, f + (Int.tmod (IntKind.i64.wrap which.n) ((l.length : Nat) : Int) : Int).toNat * 6), (g, 0), (bk, bu + (x_v40 : Int).toNat * 1), (i7, li + (x_v40 : Int).toNat * 1)] [⟨(K3c9 more), some 24⟩, ⟨(K3c2 x42), none⟩, ⟨(K3c2 x42), some 24⟩, ⟨[.int .i64 x214], none⟩, ⟨[.int .i64 x221], none⟩] (K3r21 ac x132 ae am more ak) zs := b7.addPlc (cs := [.int .i64 x221]) (fun j c hj => ot j _ (map_get hj)) rfl (by kernel_rfl) (by kernel_rfl)
                  refine D_index 10 (x_v40) [.int .i64 x221] (fun _ _ _ _ _ h => h) rfl rfl (wantedS_sound kc (by kernel_rfl)) rfl (by decide) (by kernel_rfl) (by kernel_rfl) kc b7.plOk (by rfl) (by rfl) (by rfl) n8 (by rfl) vo v4 (by kernel_rfl) fun yx (s0 : Kn 228 [(d, 0), (e, f + (Int.tmod (IntKind.i64.wrap which.n) ((l.length : Nat) : Int) : Int).toNat * 6), (g, 0), (bk, bu + (x_v40 : Int).toNat * 1), (i7, li + (x_v40 : Int).toNat * 1)] ((tP 221 4 0) :: (tI 220 x_v40) :: (tS 219 k x150.1.length o) :: (tB 218 true) :: (tI 24 x_v40) :: (K3m26 q x157 u k x150 o)) yx) => ?_
                  refine Dr [11, 12, 13, 14, 15] (dn 15) ((tB 226 (x221 != more.bus)) :: (tI 24 x_v40) :: (K3m26 q x157 u k x150 o)) s0 eo fun ad6 hf => ?_
                  refine wpD_end (by kernel_rfl) (wC ((x221 != more.bus)) hf (fun gs => ?_) (fun gs => ?_))
                  ·
                   rw [gs, cond_true] at a0
                   refine wp_seq (wp_region_from (Rk 0 1 [(tB 8 false)] hf eo fun ad7 s1 => ?_))
                   refine wf (wp_ret ?_)
                   obtain rfl := Option.some.inj a0
                   obtain rfl := Option.some.inj H
                   exact rt (.one (.c (.bool false))) s1 eo rfl
                  ·
                   rw [gs, cond_false] at a0
                   refine wp_skip (wp_region_from (Rk 0 3 ((tI 24 (IntKind.i64.wrap (x_v40 + 1))) :: (K3m26 q x157 u k x150 o)) hf eo fun ad8 s2 => ?_))
                   refine wf ?_
                   exact Exists.intro ew ⟨Nat.lt_succ_self _, Exists.intro (IntKind.i64.wrap (x_v40 + 1)) ⟨_, _, rfl, ((s2.keep [24, 20, 18, 6] (by rfl)).cut 3 (by kernel_rfl)), (eo.cutPl 3 (by kernel_rfl)), (Heap.le_trans b3 hr), a0⟩⟩
                 ·
                  rw [dv, cond_false] at a0
                  have s3 : Kn 228 (K3e12 d e f which l g bk bu x_v40) ((tB 218 false) :: (tI 24 x_v40) :: (K3m26 q x157 u k x150 o)) l5 := (kb.setB 218 false (by rfl) dv).kp
                  refine Dr [8, 9, 10, 11, 12, 13, 14, 15] (dn 15) ((tB 226 false) :: (tI 24 x_v40) :: (K3m26 q x157 u k x150 o)) s3 b7 fun ad9 kd => ?_
                  refine wpD_end (by kernel_rfl) (wC false kd (fun hb => ?_) (fun hb => ?_))
                  ·
                   cases hb
                  refine wp_skip (wp_region_from (Rk 0 3 ((tI 24 (IntKind.i64.wrap (x_v40 + 1))) :: (K3m26 q x157 u k x150 o)) kd b7 fun aea s4 => ?_))
                  refine wf ?_
                  exact Exists.intro ew ⟨Nat.lt_succ_self _, Exists.intro (IntKind.i64.wrap (x_v40 + 1)) ⟨_, _, rfl, ((s4.keep [24, 20, 18, 6] (by rfl)).cut 3 (by kernel_rfl)), (b7.cutPl 3 (by kernel_rfl)), (Heap.le_trans b3 hr), a0⟩⟩
                ·
                 rw [gr, cond_false] at a0
                 refine wp_exit ?_
                 obtain rfl := Option.some.inj a0
                 exact Exists.intro () ⟨_, _, rfl, he.kp, cp, b3, rfl⟩
              ·
               rintro _ agm ⟨lq, iu, ga, rfl, s5, kz, abe, rfl⟩
               rw [Ex.bind_go] at H
               refine wp_seq (wp_region_from ?_)
               obtain ⟨x227, ex227, H⟩ := bnd H
               refine wl fun K hK => ?_
               refine wc [] s5 kz (law_wakes_ok n kz.has  ex227) fun afo aa1 agn m6 abf k0 => ?_
               obtain rfl := m6
               refine ⟨.one (.c (.bool x227)), rfl, fun yy (s6 : Kn 228 (K3e1 d e f which l g) [(tB 227 x227)] yy) => hK _ _ ?_⟩
               refine Rk 1 1 [(tB 8 x227)] s6 k0 fun aeb s7 => ?_
               refine wf (wp_ret ?_)
               obtain rfl := Option.some.inj H
               exact rt (.one (.c (.bool x227))) s7 k0 rfl
       refine D_share (FlT 228 ⟨w, h, noX⟩ (K3e1 d e f which l g) (K3p20 more x42) (K3p20 more x42) [] (K3f18 more) [3, 1] (fun mm ns rw => mm = ((tA 130 (K3c9 more)) :: (tS 128 a_l l.length c_l) :: (K3m23 a x50 b x35 a_l l c_l)) ∧ rw = [] ∧ Heap.le da ns)) ?_ (fun xm => ?_)
       ·
        refine key_float (D_float [(2, [true, false])] ?_ (fun _ _ _ hm => hm.plOk) (by kernel_rfl) (by kernel_rfl) ⟨?_, trivial⟩)
        ·
         rintro _ _ _ ⟨rfl, rfl, _⟩
         exact ⟨⟨⟨_, _, _, rfl, rfl, rfl, rfl, rfl, by rfl, by rfl, by rfl, rfl, by kernel_rfl⟩, ⟨⟨_, _, _, rfl, rfl, rfl, rfl, rfl, by rfl, by rfl, by rfl, rfl, by kernel_rfl⟩, trivial⟩⟩, by kernel_rfl⟩
        ·
         intro aaj aan yz fg abj abn zt nk mf k7 mj d1 fv
         obtain ⟨jb, bz, rfl⟩ := len2 nk
         obtain ⟨c4, c5, rfl⟩ := len2 mf
         obtain rfl : jb = true := by cases jb <;> first | rfl | exact (Bool.false_ne_true k7).elim
         obtain ⟨rfl, rfl, ko⟩ := mj
         replace hr_l := hr_l.mono ko
         replace d1 := d1.req [true, false] (by kernel_rfl) k7 rfl
         have ov : Cells fg ([] : List Card) ([] : List Value) := Cells.nil
         replace d1 : Kn 228 (K3e1 d e f which l g) ([(tA 130 (K3c9 more)), (tS 128 a_l l.length c_l), (tS 11 a x50.1.length b), (tP 10 2 0), (tI 9 x35), (tP 6 0 0), (tS 0 a_l l.length c_l), (tS 127 c4 0 0)] ++ flM (K3f18 more) [true, bz] [c4, c5]) yz := d1
         replace fv : Mem ⟨w, h, noX⟩ fg (K3e1 d e f which l g) (K3p20 more x42) [⟨c4, 0, 0, 24, 6, ([] : List Value), 0⟩, (flr (K3e1 d e f which l g) ⟨4, 131, 24, 6, 1, (K3c9 more)⟩ bz c5)] zt := fv
         refine ⟨_, rfl, rfl, fun K hK => ?_⟩
         obtain ⟨ez, fk, wn, _⟩ := id hr_l
         obtain ⟨ib, uy⟩ := app_some ex129
         refine wp_append 0 48 l.length _ (x129.length) _ ez d1 fv rfl rfl (by decide) rfl (by rfl) (by kernel_rfl) (by rfl) (by rfl) (Cells.len fk) (wn.cell fv.has fk.one) fk.one (by rw [ib]; simp <;> omega) (by rw [ib]; exact uy) (by decide) fun e3 e8 jm y1 zu o2 (s9 : Kn 228 (K3e1 d e f which l g) ([(tS 129 e3 x129.length e8), (tA 130 (K3c9 more)), (tS 128 a_l l.length c_l), (tS 11 a x50.1.length b), (tP 10 2 0), (tI 9 x35), (tP 6 0 0), (tS 0 a_l l.length c_l), (tS 127 c4 0 0)] ++ flM (K3f18 more) [true, bz] [c4, c5]) y1) (k2 : Mem ⟨w, h, noX⟩ fg (K3e1 d e f which l g) (K3p20 more x42) [⟨e3, x129.length, e8, 24, 6, (([] : List Value) ++ ez), jm⟩, (flr (K3e1 d e f which l g) ⟨4, 131, 24, 6, 1, (K3c9 more)⟩ bz c5)] zu) => ?_
         have ow : Cells fg x129 (([] : List Value) ++ ez) := by rw [ib]; exact Cells.append ov fk
         obtain rfl : jm = 0 := Nat.le_zero.1 o2
         refine hK _ _ k2.plOk ?_
         refine D_perm (flD [⟨4, 131, 24, 6, 1, (K3c9 more)⟩] [bz] ++ [2, 0, 3, 1]) (by cases bz <;> kernel_rfl) (by cases bz <;> rfl) (xl [bz] _ _ ⟨[c5], _, _, _, [⟨e3, x129.length, e8, 24, 6, (([] : List Value) ++ ez), 0⟩], rfl, rfl, rfl, ⟨e3, e8, (([] : List Value) ++ ez), rfl, rfl, ko, ow⟩, s9.next [false, true] _ (by kernel_rfl) (by rfl) (by kernel_rfl), k2.pickRows [0, 1] (by kernel_rfl) (by kernel_rfl)⟩)
       exact xm [false, false] _ _ ⟨[none, none], _, _, ((tA 130 (K3c9 more)) :: (tS 128 a_l l.length c_l) :: (K3m23 a x50 b x35 a_l l c_l)), [], rfl, rfl, rfl, ⟨rfl, rfl, (Heap.le_refl _)⟩, q0.kp, u7⟩
    ·
     rw [gg, cond_false] at H
     refine wp_skip (wp_seq (wp_region_from (Rk 0 4 ((tP 126 0 3) :: (125, .one (.c (.int .u8 (Int.tmod more.kind.n 2)))) :: (K3m23 a x50 b x35 a_l l c_l)) g3 bc fun y2 ta => ?_)))
     refine wl fun K hK => ?_
     refine wst 0 3 (.c (.int .u8 (Int.tmod more.kind.n 2))) (K3c9 more) ta bc fun i3 tc (fw : Mem ⟨w, h, noX⟩ ce (K3e1 d e f which l g) (K3p20 more x42) [] i3) => hK _ _ ?_
     have td : Kn 228 (K3e1 d e f which l g) (K3m23 a x50 b x35 a_l l c_l) y2 := tc.kp
     refine wf (wp_seq (wp_region_G (by kernel_rfl) ?_))
     replace fw := fw.drew
     refine wpG_of_D [] (K3e1 d e f which l g) (K3p20 more x42) ?_
     refine Dr [1, 3] [3, 1] ((tA 130 (K3c9 more)) :: (tS 128 a_l l.length c_l) :: (K3m23 a x50 b x35 a_l l c_l)) td fw fun aec te => ?_
     obtain ⟨x129, ex129, H⟩ := bnd H
     obtain ⟨x132, ex132, H⟩ := bnd H
     have u9 : Mem ⟨w, h, noX⟩ ce (K3e1 d e f which l g) (K3p20 more x42) [⟨none, 0, 0, 24, 6, [], 0⟩] (World.drew i3) := fw.nilRow 24 6
     have va : Mem ⟨w, h, noX⟩ ce (K3e1 d e f which l g) (K3p20 more x42) [⟨none, 0, 0, 24, 6, [], 0⟩, ⟨none, 0, 0, 24, 6, [], 0⟩] (World.drew i3) := u9.nilRow 24 6
     refine D_share (FlT 228 ⟨w, h, noX⟩ (K3e1 d e f which l g) (K3p20 more x42) (K3p20 more x42) [] [⟨4, 131, 24, 6, 1, (K3c9 more)⟩] [2, 0, 3, 1] (fun mm jq rw => ∃ (bh : Option Addr) (bn : Nat) (an : List Value), mm = ((tS 129 bh x129.length bn) :: (tA 130 (K3c9 more)) :: (K3m23 a x50 b x35 a_l l c_l)) ∧ rw = [⟨bh, x129.length, bn, 24, 6, an, 0⟩] ∧ Heap.le ce jq ∧ Cells jq x129 an)) ?_ (fun xn => ?_)
     ·
      refine key_float (D_float [(5, [true])] ?_ (fun _ _ _ hm => hm.plOk) (by kernel_rfl) (by kernel_rfl) ⟨?_, trivial⟩)
      ·
       rintro _ _ _ ⟨bh, bn, an, rfl, rfl, _, _⟩
       exact ⟨⟨⟨_, _, _, rfl, rfl, rfl, rfl, rfl, by rfl, by rfl, by rfl, rfl, by kernel_rfl⟩, trivial⟩, by kernel_rfl⟩
      ·
       intro aak aao y3 df abk abo zv nl mg k8 ml d2 fx
       obtain ⟨jc, rfl⟩ := len1 nl
       obtain ⟨al, rfl⟩ := len1 mg
       obtain rfl : jc = true := by cases jc <;> first | rfl | exact (Bool.false_ne_true k8).elim
       obtain ⟨bh, bn, an, rfl, rfl, kq, ox⟩ := ml
       replace d2 := d2.req [true] (by kernel_rfl) k8 rfl
       have aw : Cells df ([(Card.mk more.bus more.number more.minute (IK.mk (Int.tmod more.kind.n 2)) more.part more.sg)] : List Card) ([.int .i64 more.bus, .int .i64 more.number, .int .i64 more.minute, .int .u8 (Int.tmod more.kind.n 2), .int .i64 more.part, .int .i64 more.sg] : List Value) := ⟨_, _, rfl, ((rep_pair rep_int (rep_pair rep_int (rep_pair rep_int (rep_pair rep_ik (rep_pair rep_int rep_int))))) : rep df ((Card.mk more.bus more.number more.minute (IK.mk (Int.tmod more.kind.n 2)) more.part more.sg) : Card) _), rfl⟩
       replace d2 : Kn 228 (K3e1 d e f which l g) ([(tS 129 bh x129.length bn), (tA 130 (K3c9 more)), (tS 11 a x50.1.length b), (tP 10 2 0), (tI 9 x35), (tP 6 0 0), (tS 0 a_l l.length c_l), (tS 131 al 1 1)] ++ flM [⟨4, 131, 24, 6, 1, (K3c9 more)⟩] [true] [al]) y3 := d2
       replace fx : Mem ⟨w, h, noX⟩ df (K3e1 d e f which l g) (K3p20 more x42) [⟨bh, x129.length, bn, 24, 6, an, 0⟩, ⟨al, 1, 1, 24, 6, ([.int .i64 more.bus, .int .i64 more.number, .int .i64 more.minute, .int .u8 (Int.tmod more.kind.n 2), .int .i64 more.part, .int .i64 more.sg] : List Value), 0⟩] zv := fx
       refine ⟨_, rfl, rfl, fun K hK => ?_⟩
       obtain ⟨ic, uz⟩ := app_some ex132
       refine wp_append 0 48 1 _ (x132.length) _ ([.int .i64 more.bus, .int .i64 more.number, .int .i64 more.minute, .int .u8 (Int.tmod more.kind.n 2), .int .i64 more.part, .int .i64 more.sg] : List Value) d2 fx rfl rfl (by decide) rfl (by rfl) (by kernel_rfl) (by rfl) (by rfl) (Cells.len aw) (fx.rowCell (i := 1) rfl) aw.one (by rw [ic]; simp <;> omega) (by rw [ic]; exact uz) (by decide) fun ad af jn y4 mc o3 (tg : Kn 228 (K3e1 d e f which l g) ([(tS 132 ad x132.length af), (tS 129 bh x129.length bn), (tA 130 (K3c9 more)), (tS 11 a x50.1.length b), (tP 10 2 0), (tI 9 x35), (tP 6 0 0), (tS 0 a_l l.length c_l), (tS 131 al 1 1)] ++ flM [⟨4, 131, 24, 6, 1, (K3c9 more)⟩] [true] [al]) y4) (ep : Mem ⟨w, h, noX⟩ df (K3e1 d e f which l g) (K3p20 more x42) [⟨ad, x132.length, af, 24, 6, (an ++ ([.int .i64 more.bus, .int .i64 more.number, .int .i64 more.minute, .int .u8 (Int.tmod more.kind.n 2), .int .i64 more.part, .int .i64 more.sg] : List Value)), jn⟩, ⟨al, 1, 1, 24, 6, ([.int .i64 more.bus, .int .i64 more.number, .int .i64 more.minute, .int .u8 (Int.tmod more.kind.n 2), .int .i64 more.part, .int .i64 more.sg] : List Value), 0⟩] mc) => ?_
       have ax : Cells df x132 (an ++ ([.int .i64 more.bus, .int .i64 more.number, .int .i64 more.minute, .int .u8 (Int.tmod more.kind.n 2), .int .i64 more.part, .int .i64 more.sg] : List Value)) := by rw [ic]; exact Cells.append ox aw
       obtain rfl : jn = 0 := Nat.le_zero.1 o3
       refine hK _ _ ep.plOk ?_
       refine D_runF [6] (6 :: 5 :: (flD [⟨4, 131, 24, 6, 1, (K3c9 more)⟩] [true] ++ [2, 0, 3, 1])) ([(tS 15 ad x132.length af), (tS 132 ad x132.length af), (tS 129 bh x129.length bn), (tA 130 (K3c9 more)), (tS 11 a x50.1.length b), (tP 10 2 0), (tI 9 x35), (tP 6 0 0), (tS 0 a_l l.length c_l), (tS 131 al 1 1)] ++ flM [⟨4, 131, 24, 6, 1, (K3c9 more)⟩] [true] [al]) (fun _ _ _ _ _ h => h) tg ep.plOk (by kernel_rfl) (by rfl) (by kernel_rfl) fun l7 (th : Kn 228 (K3e1 d e f which l g) ([(tS 15 ad x132.length af), (tS 132 ad x132.length af), (tS 129 bh x129.length bn), (tA 130 (K3c9 more)), (tS 11 a x50.1.length b), (tP 10 2 0), (tI 9 x35), (tP 6 0 0), (tS 0 a_l l.length c_l), (tS 131 al 1 1)] ++ flM [⟨4, 131, 24, 6, 1, (K3c9 more)⟩] [true] [al]) l7) => ?_
       have ti : Kn 228 (K3e1 d e f which l g) ((tS 15 ad x132.length af) :: (K3m23 a x50 b x35 a_l l c_l)) l7 := th.kp
       refine wpD_end (by kernel_rfl) (wp_seq (wp_seq (wp_region_from (Rk 0 1 ((tS 133 ad x132.length af) :: (tS 15 ad x132.length af) :: (K3m23 a x50 b x35 a_l l c_l)) ti ep fun aee tj => ?_))))
       obtain ⟨jr, fm, wk, fy⟩ := ep.settle (i := 0) rfl
       replace ax := ax.mono fm
       replace fy : Mem ⟨w, h, noX⟩ jr (K3e1 d e f which l g) (K3p20 more x42) (K3r22 ad x132 af an more al) mc := fy
       have ap : RepS jr ad af x132 := ⟨_, ax, wk, ep.rowCap (i := 0) rfl⟩
       obtain ⟨x134, ex134, H⟩ := bnd H
       refine wl fun K hK => ?_
       refine wc [.c (.slice ad x132.length af)] tj fy (law_ready_ok n fy.has x132 ap ex134) fun afp aa2 ago m7 ea b8 => ?_
       replace hr_l := hr_l.mono (Heap.le_trans (Heap.le_trans kq fm) ea)
       replace ag := ag.mono (Heap.le_trans (Heap.le_trans kq fm) ea)
       replace ap := ap.mono ea
       replace ax := ax.mono ea
       replace aw := aw.mono (Heap.le_trans fm ea)
       obtain rfl := m7
       refine ⟨.one (.c (.bool x134)), rfl, fun y5 (tl : Kn 228 (K3e1 d e f which l g) ((tB 134 x134) :: (tS 133 ad x132.length af) :: (tS 15 ad x132.length af) :: (K3m23 a x50 b x35 a_l l c_l)) y5) => hK _ _ ?_⟩
       refine Rk 2 1 ((tB 135 (!x134)) :: (tS 15 ad x132.length af) :: (K3m23 a x50 b x35 a_l l c_l)) tl b8 fun aef hg => ?_
       refine wf (wC ((!x134)) hg (fun gu => ?_) (fun gu => ?_))
       ·
        rw [gu, cond_true] at H
        refine wp_seq (wp_region_from ?_)
        obtain ⟨x136, ex136, H⟩ := bnd H
        refine wl fun K hK => ?_
        refine wc [] hg b8 (law_wakes_ok n b8.has  ex136) fun afq aa3 agp m8 abg k3 => ?_
        obtain rfl := m8
        refine ⟨.one (.c (.bool x136)), rfl, fun y6 (tm : Kn 228 (K3e1 d e f which l g) ((tB 136 x136) :: (tB 135 (!x134)) :: (tS 15 ad x132.length af) :: (K3m23 a x50 b x35 a_l l c_l)) y6) => hK _ _ ?_⟩
        refine Rk 1 1 [(tB 8 x136)] tm k3 fun aeg tn => ?_
        refine wf (wp_ret ?_)
        obtain rfl := Option.some.inj H
        exact rt (.one (.c (.bool x136))) tn k3 rfl
       ·
        rw [gu, cond_false] at H
        refine wp_skip (wp_seq (wp_region_G (by kernel_rfl) ?_))
        replace b8 := b8.drew
        refine wpG_of_D [] (K3e1 d e f which l g) (K3p20 more x42) ?_
        refine Dr [0, 2, 3, 4] [4, 3, 2, 0] ((tI 142 x35) :: (tI 141 x42.bus) :: (tS 138 ad x132.length af) :: (tS 15 ad x132.length af) :: (tS 11 a x50.1.length b) :: (K3m29 x35 a_l l c_l)) hg b8 fun aeh tp => ?_
        obtain ⟨x139, ex139, H⟩ := bnd H
        refine Dl 1 fun K hK => ?_
        refine wc [.c (.slice ad x132.length af)] tp b8 (law_Cards_ok n b8.has x132 ap ex139) fun afr aa4 agq m9 eb h4 => ?_
        obtain ⟨e4, e9, rfl, we⟩ := m9
        refine ⟨.one (.c (.slice e4 x139.length e9)), rfl, fun y7 (tq : Kn 228 (K3e1 d e f which l g) ((tS 139 e4 x139.length e9) :: (tI 142 x35) :: (tI 141 x42.bus) :: (tS 138 ad x132.length af) :: (tS 15 ad x132.length af) :: (tS 11 a x50.1.length b) :: (K3m29 x35 a_l l c_l)) y7) => hK _ _ h4.plOk ?_⟩
        obtain ⟨x143, ex143, H⟩ := bnd H
        refine Dl 5 fun K hK => ?_
        refine wc [.c (.slice e4 x139.length e9), .c (.int .i64 x42.bus), .c (.int .i64 x35)] tq h4 (pit_Open_ok n h4.has x139 we x42.bus x35 ex143) fun afs aa5 agr na ec er => ?_
        replace hr_l := hr_l.mono (Heap.le_trans eb ec)
        obtain ⟨_, _, rfl, ⟨z, ab, rfl, a5⟩, rfl⟩ := na
        refine ⟨.tup [.c (.slice z x143.1.length ab), .c (.int .i64 x143.2)], rfl, fun y8 (ts : Kn 228 (K3e1 d e f which l g) ((143, .tup [.c (.slice z x143.1.length ab), .c (.int .i64 x143.2)]) :: (tS 139 e4 x139.length e9) :: (tI 142 x35) :: (tI 141 x42.bus) :: (tS 138 ad x132.length af) :: (tS 15 ad x132.length af) :: (tS 11 a x50.1.length b) :: (K3m29 x35 a_l l c_l)) y8) => hK _ _ er.plOk ?_⟩
        refine Dr [6, 7, 8, 9, 10] [10, 9, 8, 7, 6, 5, 1, 4, 3, 2, 0] ((tI 17 x143.2) :: (tS 16 z x143.1.length ab) :: (tS 15 ad x132.length af) :: (tS 11 a x50.1.length b) :: (K3m29 x35 a_l l c_l)) ts er fun aei tt => ?_
        refine wpD_end (by kernel_rfl) (wp_seq (wp_region_from (Rk 0 1 ((tS 147 a_l l.length c_l) :: (tI 17 x143.2) :: (tS 16 z x143.1.length ab) :: (tS 15 ad x132.length af) :: (K3m30 a x50 b x35)) tt er fun aej tu => ?_)))
        obtain ⟨x148, ex148, H⟩ := bnd H
        refine wl fun K hK => ?_
        refine wc [.c (.slice a_l l.length c_l)] tu er (law_Cards_ok n er.has l hr_l ex148) fun aft aa6 ags nb ed h5 => ?_
        obtain ⟨c0, c8, rfl, wg⟩ := nb
        refine ⟨.one (.c (.slice c0 x148.length c8)), rfl, fun y9 (tw : Kn 228 (K3e1 d e f which l g) ((tS 148 c0 x148.length c8) :: (tS 147 a_l l.length c_l) :: (tI 17 x143.2) :: (tS 16 z x143.1.length ab) :: (tS 15 ad x132.length af) :: (K3m30 a x50 b x35)) y9) => hK _ _ ?_⟩
        refine Rk 2 1 ((tI 149 x35) :: (tS 148 c0 x148.length c8) :: (tI 17 x143.2) :: (tS 16 z x143.1.length ab) :: (tS 15 ad x132.length af) :: (K3m30 a x50 b x35)) tw h5 fun aek tx => ?_
        obtain ⟨x150, ex150, H⟩ := bnd H
        refine wl fun K hK => ?_
        refine wc [.c (.slice c0 x148.length c8), .c (.int .i64 x35)] tx h5 (pit_FitL_ok n h5.has x148 wg x35 ex150) fun afu aa7 agt nc ee fz => ?_
        replace ap := ap.mono (Heap.le_trans (Heap.le_trans (Heap.le_trans eb ec) ed) ee)
        obtain ⟨_, _, rfl, ⟨m, p, rfl, a3⟩, rfl⟩ := nc
        refine ⟨.tup [.c (.slice m x150.1.length p), .c (.int .i64 x150.2)], rfl, fun za (ty : Kn 228 (K3e1 d e f which l g) ((150, .tup [.c (.slice m x150.1.length p), .c (.int .i64 x150.2)]) :: (tI 149 x35) :: (tS 148 c0 x148.length c8) :: (tI 17 x143.2) :: (tS 16 z x143.1.length ab) :: (tS 15 ad x132.length af) :: (K3m30 a x50 b x35)) za) => hK _ _ ?_⟩
        refine Rk 4 5 ((tI 19 x150.2) :: (tS 18 m x150.1.length p) :: (tI 17 x143.2) :: (tS 16 z x143.1.length ab) :: (tS 15 ad x132.length af) :: (K3m30 a x50 b x35)) ty fz fun aem tz => ?_
        refine wf (wp_seq (wp_region_from (Rk 0 1 ((tS 154 ad x132.length af) :: (tI 19 x150.2) :: (tS 18 m x150.1.length p) :: (tI 17 x143.2) :: (tS 16 z x143.1.length ab) :: (K3m30 a x50 b x35)) tz fz fun aen t0 => ?_)))
        obtain ⟨x155, ex155, H⟩ := bnd H
        refine wl fun K hK => ?_
        refine wc [.c (.slice ad x132.length af)] t0 fz (law_Cards_ok n fz.has x132 ap ex155) fun afv aa8 agu nd cv h6 => ?_
        obtain ⟨c1, c9, rfl, wh⟩ := nd
        refine ⟨.one (.c (.slice c1 x155.length c9)), rfl, fun zb (t2 : Kn 228 (K3e1 d e f which l g) ((tS 155 c1 x155.length c9) :: (tS 154 ad x132.length af) :: (tI 19 x150.2) :: (tS 18 m x150.1.length p) :: (tI 17 x143.2) :: (tS 16 z x143.1.length ab) :: (K3m30 a x50 b x35)) zb) => hK _ _ ?_⟩
        refine Rk 2 1 [(tI 156 x35), (tS 155 c1 x155.length c9), (tI 19 x150.2), (tS 18 m x150.1.length p), (tI 17 x143.2), (tS 16 z x143.1.length ab), (tS 11 a x50.1.length b), (tP 6 0 0)] t2 h6 fun aeo t3 => ?_
        obtain ⟨x157, ex157, H⟩ := bnd H
        refine wl fun K hK => ?_
        refine wc [.c (.slice c1 x155.length c9), .c (.int .i64 x35)] t3 h6 (pit_FitL_ok n h6.has x155 wh x35 ex157) fun afx nt agv nf cw br => ?_
        replace ag := ag.mono (Heap.le_trans (Heap.le_trans (Heap.le_trans (Heap.le_trans (Heap.le_trans eb ec) ed) ee) cv) cw)
        replace ap := ap.mono (Heap.le_trans cv cw)
        replace a5 := a5.mono (Heap.le_trans (Heap.le_trans (Heap.le_trans ed ee) cv) cw)
        replace a3 := a3.mono (Heap.le_trans cv cw)
        replace ax := ax.mono (Heap.le_trans (Heap.le_trans (Heap.le_trans (Heap.le_trans (Heap.le_trans eb ec) ed) ee) cv) cw)
        replace aw := aw.mono (Heap.le_trans (Heap.le_trans (Heap.le_trans (Heap.le_trans (Heap.le_trans eb ec) ed) ee) cv) cw)
        obtain ⟨_, _, rfl, ⟨s, x, rfl, bb⟩, rfl⟩ := nf
        refine ⟨.tup [.c (.slice s x157.1.length x), .c (.int .i64 x157.2)], rfl, fun zc (t4 : Kn 228 (K3e1 d e f which l g) [(157, .tup [.c (.slice s x157.1.length x), .c (.int .i64 x157.2)]), (tI 156 x35), (tS 155 c1 x155.length c9), (tI 19 x150.2), (tS 18 m x150.1.length p), (tI 17 x143.2), (tS 16 z x143.1.length ab), (tS 11 a x50.1.length b), (tP 6 0 0)] zc) => hK _ _ ?_⟩
        refine Rk 4 5 [(tI 21 x157.2), (tS 20 s x157.1.length x), (tI 19 x150.2), (tS 18 m x150.1.length p), (tI 17 x143.2), (tS 16 z x143.1.length ab), (tS 11 a x50.1.length b), (tP 6 0 0)] t4 br fun aep t5 => ?_
        refine wf (wp_seq (wp_seq ?_))
        obtain ⟨lj, cd, H⟩ := bnd H
        refine wp_mid' (fun a' w' => ∃ (iw : Array Value) (dg : Heap), a' = ⟨iw, []⟩ ∧ Kn 228 (K3e1 d e f which l g) [(tS 20 s x157.1.length x), (tS 18 m x150.1.length p), (tS 16 z x143.1.length ab), (tS 11 a x50.1.length b), (tP 6 0 0), (tB 169 lj)] iw ∧ Mem ⟨w, h, noX⟩ dg (K3e1 d e f which l g) (K3p20 more x42) (K3r22 ad x132 af an more al) w' ∧ Heap.le nt dg) ?_ ?_
        ·
         refine wp_region_from (Rk 0 3 [(tB 162 (x143.2 != 0)), (tI 21 x157.2), (tS 20 s x157.1.length x), (tI 19 x150.2), (tS 18 m x150.1.length p), (tS 16 z x143.1.length ab), (tS 11 a x50.1.length b), (tP 6 0 0)] t5 br fun l8 ke => ?_)
         rcases Bool.eq_false_or_eq_true ((x143.2 != 0)) with dw | dw
         ·
          rw [dw, cond_true] at cd
          have t6 : Kn 228 (K3e1 d e f which l g) [(tB 162 true), (tI 21 x157.2), (tS 20 s x157.1.length x), (tI 19 x150.2), (tS 18 m x150.1.length p), (tS 16 z x143.1.length ab), (tS 11 a x50.1.length b), (tP 6 0 0)] l8 := (ke.setB 162 true (by rfl) dw).kp
          refine Rk 3 7 ((tB 169 true) :: (K3m25 s x157 x m x150 p z x143 ab a x50 b)) t6 br fun aeq t7 => ?_
          refine wf ?_
          obtain rfl := Option.some.inj cd
          exact Exists.intro _ ⟨_, rfl, t7.kp, br, (Heap.le_refl _)⟩
         ·
          rw [dw, cond_false] at cd
          have t8 : Kn 228 (K3e1 d e f which l g) [(tB 162 false), (tI 21 x157.2), (tS 20 s x157.1.length x), (tI 19 x150.2), (tS 18 m x150.1.length p), (tS 16 z x143.1.length ab), (tS 11 a x50.1.length b), (tP 6 0 0)] l8 := (ke.setB 162 false (by rfl) dw).kp
          refine Rk 3 4 ((tB 166 (x150.2 != 0)) :: (tI 21 x157.2) :: (K3m25 s x157 x m x150 p z x143 ab a x50 b)) t8 br fun l9 kf => ?_
          rcases Bool.eq_false_or_eq_true ((x150.2 != 0)) with dx | dx
          ·
           rw [dx, cond_true] at cd
           have t9 : Kn 228 (K3e1 d e f which l g) ((tB 166 true) :: (tI 21 x157.2) :: (K3m25 s x157 x m x150 p z x143 ab a x50 b)) l9 := (kf.setB 166 true (by rfl) dx).kp
           refine Rk 7 3 ((tB 169 true) :: (K3m25 s x157 x m x150 p z x143 ab a x50 b)) t9 br fun aer ua => ?_
           refine wf ?_
           obtain rfl := Option.some.inj cd
           exact Exists.intro _ ⟨_, rfl, ua.kp, br, (Heap.le_refl _)⟩
          ·
           rw [dx, cond_false] at cd
           have ub : Kn 228 (K3e1 d e f which l g) ((tB 166 false) :: (tI 21 x157.2) :: (K3m25 s x157 x m x150 p z x143 ab a x50 b)) l9 := (kf.setB 166 false (by rfl) dx).kp
           refine Rk 7 3 ((tB 169 (x157.2 != 0)) :: (K3m25 s x157 x m x150 p z x143 ab a x50 b)) ub br fun aes uc => ?_
           refine wf ?_
           obtain rfl := Option.some.inj cd
           exact Exists.intro _ ⟨_, rfl, uc.kp, br, (Heap.le_refl _)⟩
        ·
         rintro _ agx ⟨iw, dg, rfl, hi, f0, ch⟩
         replace ag := ag.mono ch
         replace ap := ap.mono ch
         replace a5 := a5.mono ch
         replace a3 := a3.mono ch
         replace bb := bb.mono ch
         replace ax := ax.mono ch
         replace aw := aw.mono ch
         refine wC (lj) hi (fun gv => ?_) (fun gv => ?_)
         ·
          rw [gv, cond_true] at H
          refine wp_seq (wp_region_from (Rk 0 1 [(tB 8 false)] hi f0 fun aet ud => ?_))
          refine wf (wp_ret ?_)
          obtain rfl := Option.some.inj H
          exact rt (.one (.c (.bool false))) ud f0 rfl
         ·
          rw [gv, cond_false] at H
          refine wp_skip (wp_seq (wp_seq (wp_region_from (Rk 0 1 ((tI 22 0) :: (K3m25 s x157 x m x150 p z x143 ab a x50 b)) hi f0 fun aeu ue => ?_))))
          refine wf ?_
          obtain ⟨lk, ji, H⟩ := bnd H
          refine wp_mid' (fun a' w' => ∃ (lr : Unit) (iy : Array Value) (dh : Heap), a' = ⟨iy, []⟩ ∧ Kn 228 (K3e1 d e f which l g) (K3m25 s x157 x m x150 p z x143 ab a x50 b) iy ∧ Mem ⟨w, h, noX⟩ dh (K3e1 d e f which l g) (K3p20 more x42) (K3r22 ad x132 af an more al) w' ∧ Heap.le dg dh ∧ lk = .go lr) ?_ ?_
          ·
           refine wp_block ?_
           refine wp_loop_n (fun xt a' w' => ∃ (x_v50 : Int) (iz : Array Value) (fh : Heap), a' = ⟨iz, []⟩ ∧ Kn 228 (K3e1 d e f which l g) ((tI 22 x_v50) :: (K3m25 s x157 x m x150 p z x143 ab a x50 b)) iz ∧ Mem ⟨w, h, noX⟩ fh (K3e1 d e f which l g) (K3p20 more x42) (K3r22 ad x132 af an more al) w' ∧ Heap.le dg fh ∧ law_PitHeld_l5 xt more x50 x143 x_v50 = some lk) n ?_ ?_
           ·
            exact Exists.intro 0 ⟨_, _, rfl, ue.kp, f0, (Heap.le_refl _), ji⟩
           ·
            rintro ex _ zy ⟨x_v50, iz, fh, rfl, uf, cq, bf, a1⟩
            clear ji
            obtain _ | ex := ex
            ·
             rw [law_PitHeld_l5] at a1; cases a1
            rw [law_PitHeld_l5] at a1
            replace ag := ag.mono bf
            replace ap := ap.mono bf
            replace a5 := a5.mono bf
            replace a3 := a3.mono bf
            replace bb := bb.mono bf
            replace ax := ax.mono bf
            replace aw := aw.mono bf
            refine wp_seq (wp_seq (wp_region_from (Rk 0 4 ((tB 173 (decide (x_v50 < ((x143.1.length : Nat) : Int)))) :: (tI 22 x_v50) :: (K3m25 s x157 x m x150 p z x143 ab a x50 b)) uf cq fun aev hl => ?_)))
            refine wf (wC (decide (x_v50 < ((x143.1.length : Nat) : Int))) hl (fun gw => ?_) (fun gw => ?_))
            ·
             rw [gw, cond_true] at a1
             refine wp_skip (wp_seq (wp_block (wp_seq (wp_region_G (by kernel_rfl) ?_))))
             replace cq := cq.drew
             refine wpG_of_D [] (K3e1 d e f which l g) (K3p20 more x42) ?_
             refine Dr [0, 1, 2] [2, 1, 0] ((tI 178 x_v50) :: (tS 177 z x143.1.length ab) :: (tS 176 a x50.1.length b) :: (tI 22 x_v50) :: (K3m25 s x157 x m x150 p z x143 ab a x50 b)) hl cq fun aew ug => ?_
             obtain ⟨x179, ex179, a1⟩ := bnd a1
             obtain ⟨vq, v6, xi⟩ := idx_some ex179
             obtain ⟨bl, bv, aaf, n9, w2, oy⟩ := a5.get (by decide) xi
             obtain rfl := w2
             have h8 : Mem ⟨w, h, noX⟩ fh (K3e13 d e f which l g bl bv x_v50) [⟨(K3c9 more), some 24⟩, ⟨(K3c2 x42), none⟩, ⟨(K3c2 x42), some 24⟩, ⟨[.int .i64 x179], none⟩] (K3r22 ad x132 af an more al) (World.drew zy) := cq.addPlc (cs := [.int .i64 x179]) (fun j c hj => oy j _ (map_get hj)) rfl (by kernel_rfl) (by kernel_rfl)
             refine D_index 3 (x_v50) [.int .i64 x179] (fun _ _ _ _ _ h => h) rfl rfl (rfl) rfl (by decide) (by kernel_rfl) (by kernel_rfl) ug cq.plOk (by rfl) (by rfl) (by rfl) n9 (by rfl) vq v6 (by kernel_rfl) fun zd (uh : Kn 228 (K3e13 d e f which l g bl bv x_v50) ((tP 179 3 0) :: (tI 178 x_v50) :: (tS 177 z x143.1.length ab) :: (tS 176 a x50.1.length b) :: (tI 22 x_v50) :: (K3m25 s x157 x m x150 p z x143 ab a x50 b)) zd) => ?_
             refine Dr [4] (dn 4) ((tI 180 x179) :: (tS 176 a x50.1.length b) :: (tI 22 x_v50) :: (K3m25 s x157 x m x150 p z x143 ab a x50 b)) uh h8 fun aex ui => ?_
             obtain ⟨x181, ex181, a1⟩ := bnd a1
             refine Dl 5 fun K hK => ?_
             refine wc [.c (.slice a x50.1.length b), .c (.int .i64 x179)] ui h8 (ref_Has_ok ex h8.has x50.1 ag x179 ex181) fun afy nu zz nh hs b9 => ?_
             replace a5 := a5.mono hs
             obtain rfl := nh
             refine ⟨.one (.c (.bool x181)), rfl, fun ze (uj : Kn 228 (K3e13 d e f which l g bl bv x_v50) ((tB 181 x181) :: (tI 180 x179) :: (tS 176 a x50.1.length b) :: (tI 22 x_v50) :: (K3m25 s x157 x m x150 p z x143 ab a x50 b)) ze) => hK _ _ b9.plOk ?_⟩
             refine Dr [6, 7] (dn 7) ((tB 183 (!x181)) :: (tI 22 x_v50) :: (K3m25 s x157 x m x150 p z x143 ab a x50 b)) uj b9 fun ma kg => ?_
             rcases Bool.eq_false_or_eq_true ((!x181)) with dy | dy
             ·
              rw [dy, cond_true] at a1
              have uk : Kn 228 (K3e13 d e f which l g bl bv x_v50) ((tB 183 true) :: (tI 22 x_v50) :: (K3m25 s x157 x m x150 p z x143 ab a x50 b)) ma := (kg.setB 183 true (by rfl) dy).kp
              refine Dr [8, 9] (dn 9) ((tI 185 x_v50) :: (tS 184 z x143.1.length ab) :: (tB 183 true) :: (tI 22 x_v50) :: (K3m25 s x157 x m x150 p z x143 ab a x50 b)) uk b9 fun aey kh => ?_
              obtain ⟨x186, ex186, a1⟩ := bnd a1
              obtain ⟨vr, v7, xj⟩ := idx_some ex186
              obtain ⟨i8, ll, aag, oa, w3, oz⟩ := a5.get (by decide) xj
              obtain rfl := w3
              have et : Mem ⟨w, h, noX⟩ nu [(d, 0), (e, f + (Int.tmod (IntKind.i64.wrap which.n) ((l.length : Nat) : Int) : Int).toNat * 6), (g, 0), (bl, bv + (x_v50 : Int).toNat * 1), (i8, ll + (x_v50 : Int).toNat * 1)] [⟨(K3c9 more), some 24⟩, ⟨(K3c2 x42), none⟩, ⟨(K3c2 x42), some 24⟩, ⟨[.int .i64 x179], none⟩, ⟨[.int .i64 x186], none⟩] (K3r22 ad x132 af an more al) zz := b9.addPlc (cs := [.int .i64 x186]) (fun j c hj => oz j _ (map_get hj)) rfl (by kernel_rfl) (by kernel_rfl)
              refine D_index 10 (x_v50) [.int .i64 x186] (fun _ _ _ _ _ h => h) rfl rfl (wantedS_sound kh (by kernel_rfl)) rfl (by decide) (by kernel_rfl) (by kernel_rfl) kh b9.plOk (by rfl) (by rfl) (by rfl) oa (by rfl) vr v7 (by kernel_rfl) fun zg (um : Kn 228 [(d, 0), (e, f + (Int.tmod (IntKind.i64.wrap which.n) ((l.length : Nat) : Int) : Int).toNat * 6), (g, 0), (bl, bv + (x_v50 : Int).toNat * 1), (i8, ll + (x_v50 : Int).toNat * 1)] ((tP 186 4 0) :: (tI 185 x_v50) :: (tS 184 z x143.1.length ab) :: (tB 183 true) :: (tI 22 x_v50) :: (K3m25 s x157 x m x150 p z x143 ab a x50 b)) zg) => ?_
              refine Dr [11, 12, 13, 14, 15] (dn 15) ((tB 191 (x186 != more.number)) :: (tI 22 x_v50) :: (K3m25 s x157 x m x150 p z x143 ab a x50 b)) um et fun aez hn => ?_
              refine wpD_end (by kernel_rfl) (wC ((x186 != more.number)) hn (fun gx => ?_) (fun gx => ?_))
              ·
               rw [gx, cond_true] at a1
               refine wp_seq (wp_region_from (Rk 0 1 [(tB 8 false)] hn et fun ae0 un => ?_))
               refine wf (wp_ret ?_)
               obtain rfl := Option.some.inj a1
               obtain rfl := Option.some.inj H
               exact rt (.one (.c (.bool false))) un et rfl
              ·
               rw [gx, cond_false] at a1
               refine wp_skip (wp_region_from (Rk 0 3 ((tI 22 (IntKind.i64.wrap (x_v50 + 1))) :: (K3m25 s x157 x m x150 p z x143 ab a x50 b)) hn et fun ae1 uo => ?_))
               refine wf ?_
               exact Exists.intro ex ⟨Nat.lt_succ_self _, Exists.intro (IntKind.i64.wrap (x_v50 + 1)) ⟨_, _, rfl, ((uo.keep [22, 20, 18, 16, 11, 6] (by rfl)).cut 3 (by kernel_rfl)), (et.cutPl 3 (by kernel_rfl)), (Heap.le_trans bf hs), a1⟩⟩
             ·
              rw [dy, cond_false] at a1
              have uq : Kn 228 (K3e13 d e f which l g bl bv x_v50) ((tB 183 false) :: (tI 22 x_v50) :: (K3m25 s x157 x m x150 p z x143 ab a x50 b)) ma := (kg.setB 183 false (by rfl) dy).kp
              refine Dr [8, 9, 10, 11, 12, 13, 14, 15] (dn 15) ((tB 191 false) :: (tI 22 x_v50) :: (K3m25 s x157 x m x150 p z x143 ab a x50 b)) uq b9 fun ae2 ki => ?_
              refine wpD_end (by kernel_rfl) (wC false ki (fun hb => ?_) (fun hb => ?_))
              ·
               cases hb
              refine wp_skip (wp_region_from (Rk 0 3 ((tI 22 (IntKind.i64.wrap (x_v50 + 1))) :: (K3m25 s x157 x m x150 p z x143 ab a x50 b)) ki b9 fun ae3 ur => ?_))
              refine wf ?_
              exact Exists.intro ex ⟨Nat.lt_succ_self _, Exists.intro (IntKind.i64.wrap (x_v50 + 1)) ⟨_, _, rfl, ((ur.keep [22, 20, 18, 16, 11, 6] (by rfl)).cut 3 (by kernel_rfl)), (b9.cutPl 3 (by kernel_rfl)), (Heap.le_trans bf hs), a1⟩⟩
            ·
             rw [gw, cond_false] at a1
             refine wp_exit ?_
             obtain rfl := Option.some.inj a1
             exact Exists.intro () ⟨_, _, rfl, hl.kp, cq, bf, rfl⟩
          ·
           rintro _ agy ⟨lr, iy, dh, rfl, ut, k4, ci, rfl⟩
           rw [Ex.bind_go] at H
           replace ag := ag.mono ci
           replace ap := ap.mono ci
           replace a5 := a5.mono ci
           replace a3 := a3.mono ci
           replace bb := bb.mono ci
           replace ax := ax.mono ci
           replace aw := aw.mono ci
           refine wp_seq (wp_seq (wp_region_from (Rk 0 1 ((tI 23 0) :: (K3m25 s x157 x m x150 p z x143 ab a x50 b)) ut k4 fun ae4 uu => ?_)))
           refine wf ?_
           obtain ⟨lm, jj, H⟩ := bnd H
           refine wp_mid' (fun a' w' => ∃ (ls : Unit) (i0 : Array Value) (di : Heap), a' = ⟨i0, []⟩ ∧ Kn 228 (K3e1 d e f which l g) (K3m27 s x157 x m x150 p) i0 ∧ Mem ⟨w, h, noX⟩ di (K3e1 d e f which l g) (K3p20 more x42) (K3r22 ad x132 af an more al) w' ∧ Heap.le dh di ∧ lm = .go ls) ?_ ?_
           ·
            refine wp_block ?_
            refine wp_loop_n (fun xu a' w' => ∃ (x_v60 : Int) (i1 : Array Value) (fi : Heap), a' = ⟨i1, []⟩ ∧ Kn 228 (K3e1 d e f which l g) ((tI 23 x_v60) :: (K3m25 s x157 x m x150 p z x143 ab a x50 b)) i1 ∧ Mem ⟨w, h, noX⟩ fi (K3e1 d e f which l g) (K3p20 more x42) (K3r22 ad x132 af an more al) w' ∧ Heap.le dh fi ∧ law_PitHeld_l6 xu x50 x143 x_v60 = some lm) n ?_ ?_
            ·
             exact Exists.intro 0 ⟨_, _, rfl, uu.kp, k4, (Heap.le_refl _), jj⟩
            ·
             rintro f3 _ z0 ⟨x_v60, i1, fi, rfl, uv, f1, bp, a8⟩
             clear jj
             obtain _ | f3 := f3
             ·
              rw [law_PitHeld_l6] at a8; cases a8
             rw [law_PitHeld_l6] at a8
             replace ag := ag.mono bp
             replace ap := ap.mono bp
             replace a5 := a5.mono bp
             replace a3 := a3.mono bp
             replace bb := bb.mono bp
             replace ax := ax.mono bp
             replace aw := aw.mono bp
             refine wp_seq (wp_seq (wp_region_from (Rk 0 4 ((tB 195 (decide (x_v60 < ((x50.1.length : Nat) : Int)))) :: (tI 23 x_v60) :: (K3m25 s x157 x m x150 p z x143 ab a x50 b)) uv f1 fun ae5 ho => ?_)))
             refine wf (wC (decide (x_v60 < ((x50.1.length : Nat) : Int))) ho (fun gy => ?_) (fun gy => ?_))
             ·
              rw [gy, cond_true] at a8
              refine wp_skip (wp_seq (wp_block (wp_seq (wp_region_from (Rk 0 3 ((tI 200 x_v60) :: (tS 199 a x50.1.length b) :: (tS 198 z x143.1.length ab) :: (tI 23 x_v60) :: (K3m25 s x157 x m x150 p z x143 ab a x50 b)) ho f1 fun abp o4 => ?_)))))
              obtain ⟨x201, ex201, a8⟩ := bnd a8
              obtain ⟨vc, vs, w4⟩ := idx_some ex201
              obtain ⟨f4, ie, z1, nv, wo, ob⟩ := ag.get (by decide) w4
              obtain rfl := wo
              have ht : Mem ⟨w, h, noX⟩ fi [(d, 0), (e, f + (Int.tmod (IntKind.i64.wrap which.n) ((l.length : Nat) : Int) : Int).toNat * 6), (g, 0), (f4, ie + (x_v60 : Int).toNat * 1)] [⟨(K3c9 more), some 24⟩, ⟨(K3c2 x42), none⟩, ⟨(K3c2 x42), some 24⟩, ⟨[.int .i64 x201], none⟩] (K3r22 ad x132 af an more al) z0 := f1.addPlc (cs := [.int .i64 x201]) (fun j c hj => ob j _ (map_get hj)) rfl (by kernel_rfl) (by kernel_rfl)
              refine R_index 3 (x_v60) rfl rfl (rfl) rfl (by decide) o4 (by rfl) (by rfl) (by rfl) nv (by rfl) vc vs (by kernel_rfl) fun xv (o5 : Kn 228 [(d, 0), (e, f + (Int.tmod (IntKind.i64.wrap which.n) ((l.length : Nat) : Int) : Int).toNat * 6), (g, 0), (f4, ie + (x_v60 : Int).toNat * 1)] ((tP 201 3 0) :: (tI 200 x_v60) :: (tS 199 a x50.1.length b) :: (tS 198 z x143.1.length ab) :: (tI 23 x_v60) :: (K3m25 s x157 x m x150 p z x143 ab a x50 b)) xv) => ?_
              refine Rk 4 1 ((tI 202 x201) :: (tS 198 z x143.1.length ab) :: (tI 23 x_v60) :: (K3m25 s x157 x m x150 p z x143 ab a x50 b)) o5 ht fun abq o6 => ?_
              obtain ⟨x203, ex203, a8⟩ := bnd a8
              refine wl fun K hK => ?_
              refine wc [.c (.slice z x143.1.length ab), .c (.int .i64 x201)] o6 ht (ref_Has_ok f3 ht.has x143.1 a5 x201 ex203) fun ae6 aap af0 mo u1 ef => ?_
              obtain rfl := mo
              refine ⟨.one (.c (.bool x203)), rfl, fun xw (o7 : Kn 228 [(d, 0), (e, f + (Int.tmod (IntKind.i64.wrap which.n) ((l.length : Nat) : Int) : Int).toNat * 6), (g, 0), (f4, ie + (x_v60 : Int).toNat * 1)] ((tB 203 x203) :: (tI 202 x201) :: (tS 198 z x143.1.length ab) :: (tI 23 x_v60) :: (K3m25 s x157 x m x150 p z x143 ab a x50 b)) xw) => hK _ _ ?_⟩
              refine Rk 6 1 ((tB 204 (!x203)) :: (tI 23 x_v60) :: (K3m25 s x157 x m x150 p z x143 ab a x50 b)) o7 ef fun abr gz => ?_
              refine wf (wC ((!x203)) gz (fun gb => ?_) (fun gb => ?_))
              ·
               rw [gb, cond_true] at a8
               refine wp_seq (wp_region_from (Rk 0 1 [(tB 8 false)] gz ef fun abs o8 => ?_))
               refine wf (wp_ret ?_)
               obtain rfl := Option.some.inj a8
               obtain rfl := Option.some.inj H
               exact rt (.one (.c (.bool false))) o8 ef rfl
              ·
               rw [gb, cond_false] at a8
               refine wp_skip (wp_region_from (Rk 0 3 ((tI 23 (IntKind.i64.wrap (x_v60 + 1))) :: (K3m25 s x157 x m x150 p z x143 ab a x50 b)) gz ef fun abt o9 => ?_))
               refine wf ?_
               exact Exists.intro f3 ⟨Nat.lt_succ_self _, Exists.intro (IntKind.i64.wrap (x_v60 + 1)) ⟨_, _, rfl, ((o9.keep [23, 20, 18, 16, 11, 6] (by rfl)).cut 3 (by kernel_rfl)), (ef.cutPl 3 (by kernel_rfl)), (Heap.le_trans bp u1), a8⟩⟩
             ·
              rw [gy, cond_false] at a8
              refine wp_exit ?_
              obtain rfl := Option.some.inj a8
              exact Exists.intro () ⟨_, _, rfl, ho.kp, f1, bp, rfl⟩
           ·
            rintro _ af1 ⟨ls, i0, di, rfl, pa, kr, d3, rfl⟩
            rw [Ex.bind_go] at H
            replace ap := ap.mono d3
            replace a3 := a3.mono d3
            replace bb := bb.mono d3
            replace ax := ax.mono d3
            replace aw := aw.mono d3
            refine wp_seq (wp_seq (wp_region_from (Rk 0 1 ((tI 24 0) :: (K3m27 s x157 x m x150 p)) pa kr fun abu pb => ?_)))
            refine wf ?_
            obtain ⟨k9, jd, H⟩ := bnd H
            refine wp_mid' (fun a' w' => ∃ (ln : Unit) (ii : Array Value) (f7 : Heap), a' = ⟨ii, []⟩ ∧ Kn 228 (K3e1 d e f which l g) [] ii ∧ Mem ⟨w, h, noX⟩ f7 (K3e1 d e f which l g) (K3p20 more x42) (K3r22 ad x132 af an more al) w' ∧ Heap.le di f7 ∧ k9 = .go ln) ?_ ?_
            ·
             refine wp_block ?_
             refine wp_loop_n (fun xo a' w' => ∃ (x_v70 : Int) (ij : Array Value) (fb : Heap), a' = ⟨ij, []⟩ ∧ Kn 228 (K3e1 d e f which l g) ((tI 24 x_v70) :: (K3m27 s x157 x m x150 p)) ij ∧ Mem ⟨w, h, noX⟩ fb (K3e1 d e f which l g) (K3p20 more x42) (K3r22 ad x132 af an more al) w' ∧ Heap.le di fb ∧ law_PitHeld_l7 xo more x150 x157 x_v70 = some k9) n ?_ ?_
             ·
              exact Exists.intro 0 ⟨_, _, rfl, pb.kp, kr, (Heap.le_refl _), jd⟩
             ·
              rintro eu _ zh ⟨x_v70, ij, fb, rfl, pc, cj, b1, ay⟩
              clear jd
              obtain _ | eu := eu
              ·
               rw [law_PitHeld_l7] at ay; cases ay
              rw [law_PitHeld_l7] at ay
              replace ap := ap.mono b1
              replace a3 := a3.mono b1
              replace bb := bb.mono b1
              replace ax := ax.mono b1
              replace aw := aw.mono b1
              refine wp_seq (wp_seq (wp_region_from (Rk 0 4 ((tB 208 (decide (x_v70 < ((x150.1.length : Nat) : Int)))) :: (tI 24 x_v70) :: (K3m27 s x157 x m x150 p)) pc cj fun abv g0 => ?_)))
              refine wf (wC (decide (x_v70 < ((x150.1.length : Nat) : Int))) g0 (fun gc => ?_) (fun gc => ?_))
              ·
               rw [gc, cond_true] at ay
               refine wp_skip (wp_seq (wp_block (wp_seq (wp_region_G (by kernel_rfl) ?_))))
               replace cj := cj.drew
               refine wpG_of_D [] (K3e1 d e f which l g) (K3p20 more x42) ?_
               refine Dr [0, 1, 2] [2, 1, 0] ((tI 213 x_v70) :: (tS 212 m x150.1.length p) :: (tS 211 s x157.1.length x) :: (tI 24 x_v70) :: (K3m27 s x157 x m x150 p)) g0 cj fun abw pd => ?_
               obtain ⟨x214, ex214, ay⟩ := bnd ay
               obtain ⟨vd, vt, w5⟩ := idx_some ex214
               obtain ⟨bi, bs, z2, nw, wp, oc⟩ := a3.get (by decide) w5
               obtain rfl := wp
               have hu : Mem ⟨w, h, noX⟩ fb (K3e14 d e f which l g bi bs x_v70) [⟨(K3c9 more), some 24⟩, ⟨(K3c2 x42), none⟩, ⟨(K3c2 x42), some 24⟩, ⟨[.int .i64 x214], none⟩] (K3r22 ad x132 af an more al) (World.drew zh) := cj.addPlc (cs := [.int .i64 x214]) (fun j c hj => oc j _ (map_get hj)) rfl (by kernel_rfl) (by kernel_rfl)
               refine D_index 3 (x_v70) [.int .i64 x214] (fun _ _ _ _ _ h => h) rfl rfl (rfl) rfl (by decide) (by kernel_rfl) (by kernel_rfl) pd cj.plOk (by rfl) (by rfl) (by rfl) nw (by rfl) vd vt (by kernel_rfl) fun xy (pe : Kn 228 (K3e14 d e f which l g bi bs x_v70) ((tP 214 3 0) :: (tI 213 x_v70) :: (tS 212 m x150.1.length p) :: (tS 211 s x157.1.length x) :: (tI 24 x_v70) :: (K3m27 s x157 x m x150 p)) xy) => ?_
               refine Dr [4] (dn 4) ((tI 215 x214) :: (tS 211 s x157.1.length x) :: (tI 24 x_v70) :: (K3m27 s x157 x m x150 p)) pe hu fun abx pg => ?_
               obtain ⟨x216, ex216, ay⟩ := bnd ay
               refine Dl 5 fun K hK => ?_
               refine wc [.c (.slice s x157.1.length x), .c (.int .i64 x214)] pg hu (ref_Has_ok eu hu.has x157.1 bb x214 ex216) fun ae7 nm zi mp hp b4 => ?_
               replace a3 := a3.mono hp
               obtain rfl := mp
               refine ⟨.one (.c (.bool x216)), rfl, fun xz (ph : Kn 228 (K3e14 d e f which l g bi bs x_v70) ((tB 216 x216) :: (tI 215 x214) :: (tS 211 s x157.1.length x) :: (tI 24 x_v70) :: (K3m27 s x157 x m x150 p)) xz) => hK _ _ b4.plOk ?_⟩
               refine Dr [6, 7] (dn 7) ((tB 218 (!x216)) :: (tI 24 x_v70) :: (K3m27 s x157 x m x150 p)) ph b4 fun lu js => ?_
               rcases Bool.eq_false_or_eq_true ((!x216)) with dj | dj
               ·
                rw [dj, cond_true] at ay
                have pi : Kn 228 (K3e14 d e f which l g bi bs x_v70) ((tB 218 true) :: (tI 24 x_v70) :: (K3m27 s x157 x m x150 p)) lu := (js.setB 218 true (by rfl) dj).kp
                refine Dr [8, 9] (dn 9) ((tI 220 x_v70) :: (tS 219 m x150.1.length p) :: (tB 218 true) :: (tI 24 x_v70) :: (K3m27 s x157 x m x150 p)) pi b4 fun abz jt => ?_
                obtain ⟨x221, ex221, ay⟩ := bnd ay
                obtain ⟨ve, vu, w6⟩ := idx_some ex221
                obtain ⟨i4, la, z3, nx, wq, od⟩ := a3.get (by decide) w6
                obtain rfl := wq
                have eg : Mem ⟨w, h, noX⟩ nm [(d, 0), (e, f + (Int.tmod (IntKind.i64.wrap which.n) ((l.length : Nat) : Int) : Int).toNat * 6), (g, 0), (bi, bs + (x_v70 : Int).toNat * 1), (i4, la + (x_v70 : Int).toNat * 1)] [⟨(K3c9 more), some 24⟩, ⟨(K3c2 x42), none⟩, ⟨(K3c2 x42), some 24⟩, ⟨[.int .i64 x214], none⟩, ⟨[.int .i64 x221], none⟩] (K3r22 ad x132 af an more al) zi := b4.addPlc (cs := [.int .i64 x221]) (fun j c hj => od j _ (map_get hj)) rfl (by kernel_rfl) (by kernel_rfl)
                refine D_index 10 (x_v70) [.int .i64 x221] (fun _ _ _ _ _ h => h) rfl rfl (wantedS_sound jt (by kernel_rfl)) rfl (by decide) (by kernel_rfl) (by kernel_rfl) jt b4.plOk (by rfl) (by rfl) (by rfl) nx (by rfl) ve vu (by kernel_rfl) fun x0 (pk : Kn 228 [(d, 0), (e, f + (Int.tmod (IntKind.i64.wrap which.n) ((l.length : Nat) : Int) : Int).toNat * 6), (g, 0), (bi, bs + (x_v70 : Int).toNat * 1), (i4, la + (x_v70 : Int).toNat * 1)] ((tP 221 4 0) :: (tI 220 x_v70) :: (tS 219 m x150.1.length p) :: (tB 218 true) :: (tI 24 x_v70) :: (K3m27 s x157 x m x150 p)) x0) => ?_
                refine Dr [11, 12, 13, 14, 15] (dn 15) ((tB 226 (x221 != more.bus)) :: (tI 24 x_v70) :: (K3m27 s x157 x m x150 p)) pk eg fun ab0 g1 => ?_
                refine wpD_end (by kernel_rfl) (wC ((x221 != more.bus)) g1 (fun gd => ?_) (fun gd => ?_))
                ·
                 rw [gd, cond_true] at ay
                 refine wp_seq (wp_region_from (Rk 0 1 [(tB 8 false)] g1 eg fun ab3 pl => ?_))
                 refine wf (wp_ret ?_)
                 obtain rfl := Option.some.inj ay
                 obtain rfl := Option.some.inj H
                 exact rt (.one (.c (.bool false))) pl eg rfl
                ·
                 rw [gd, cond_false] at ay
                 refine wp_skip (wp_region_from (Rk 0 3 ((tI 24 (IntKind.i64.wrap (x_v70 + 1))) :: (K3m27 s x157 x m x150 p)) g1 eg fun ab4 pm => ?_))
                 refine wf ?_
                 exact Exists.intro eu ⟨Nat.lt_succ_self _, Exists.intro (IntKind.i64.wrap (x_v70 + 1)) ⟨_, _, rfl, ((pm.keep [24, 20, 18, 6] (by rfl)).cut 3 (by kernel_rfl)), (eg.cutPl 3 (by kernel_rfl)), (Heap.le_trans b1 hp), ay⟩⟩
               ·
                rw [dj, cond_false] at ay
                have pn : Kn 228 (K3e14 d e f which l g bi bs x_v70) ((tB 218 false) :: (tI 24 x_v70) :: (K3m27 s x157 x m x150 p)) lu := (js.setB 218 false (by rfl) dj).kp
                refine Dr [8, 9, 10, 11, 12, 13, 14, 15] (dn 15) ((tB 226 false) :: (tI 24 x_v70) :: (K3m27 s x157 x m x150 p)) pn b4 fun ab5 ju => ?_
                refine wpD_end (by kernel_rfl) (wC false ju (fun hb => ?_) (fun hb => ?_))
                ·
                 cases hb
                refine wp_skip (wp_region_from (Rk 0 3 ((tI 24 (IntKind.i64.wrap (x_v70 + 1))) :: (K3m27 s x157 x m x150 p)) ju b4 fun ab6 po => ?_))
                refine wf ?_
                exact Exists.intro eu ⟨Nat.lt_succ_self _, Exists.intro (IntKind.i64.wrap (x_v70 + 1)) ⟨_, _, rfl, ((po.keep [24, 20, 18, 6] (by rfl)).cut 3 (by kernel_rfl)), (b4.cutPl 3 (by kernel_rfl)), (Heap.le_trans b1 hp), ay⟩⟩
              ·
               rw [gc, cond_false] at ay
               refine wp_exit ?_
               obtain rfl := Option.some.inj ay
               exact Exists.intro () ⟨_, _, rfl, g0.kp, cj, b1, rfl⟩
            ·
             rintro _ af2 ⟨ln, ii, f7, rfl, pp, ks, aba, rfl⟩
             rw [Ex.bind_go] at H
             refine wp_seq (wp_region_from ?_)
             obtain ⟨x227, ex227, H⟩ := bnd H
             refine wl fun K hK => ?_
             refine wc [] pp ks (law_wakes_ok n ks.has  ex227) fun ae8 aaq af3 mq abb kt => ?_
             obtain rfl := mq
             refine ⟨.one (.c (.bool x227)), rfl, fun x1 (pq : Kn 228 (K3e1 d e f which l g) [(tB 227 x227)] x1) => hK _ _ ?_⟩
             refine Rk 1 1 [(tB 8 x227)] pq kt fun ab7 pr => ?_
             refine wf (wp_ret ?_)
             obtain rfl := Option.some.inj H
             exact rt (.one (.c (.bool x227))) pr kt rfl
     refine D_share (FlT 228 ⟨w, h, noX⟩ (K3e1 d e f which l g) (K3p20 more x42) (K3p20 more x42) [] (K3f18 more) [3, 1] (fun mm nn rw => mm = ((tA 130 (K3c9 more)) :: (tS 128 a_l l.length c_l) :: (K3m23 a x50 b x35 a_l l c_l)) ∧ rw = [] ∧ Heap.le ce nn)) ?_ (fun xk => ?_)
     ·
      refine key_float (D_float [(2, [true, false])] ?_ (fun _ _ _ hm => hm.plOk) (by kernel_rfl) (by kernel_rfl) ⟨?_, trivial⟩)
      ·
       rintro _ _ _ ⟨rfl, rfl, _⟩
       exact ⟨⟨⟨_, _, _, rfl, rfl, rfl, rfl, rfl, by rfl, by rfl, by rfl, rfl, by kernel_rfl⟩, ⟨⟨_, _, _, rfl, rfl, rfl, rfl, rfl, by rfl, by rfl, by rfl, rfl, by kernel_rfl⟩, trivial⟩⟩, by kernel_rfl⟩
      ·
       intro aah aal x2 fc abh abl zj ni md k5 mh dz fn
       obtain ⟨i9, bx, rfl⟩ := len2 ni
       obtain ⟨c2, c3, rfl⟩ := len2 md
       obtain rfl : i9 = true := by cases i9 <;> first | rfl | exact (Bool.false_ne_true k5).elim
       obtain ⟨rfl, rfl, kj⟩ := mh
       replace hr_l := hr_l.mono kj
       replace dz := dz.req [true, false] (by kernel_rfl) k5 rfl
       have oe : Cells fc ([] : List Card) ([] : List Value) := Cells.nil
       replace dz : Kn 228 (K3e1 d e f which l g) ([(tA 130 (K3c9 more)), (tS 128 a_l l.length c_l), (tS 11 a x50.1.length b), (tP 10 2 0), (tI 9 x35), (tP 6 0 0), (tS 0 a_l l.length c_l), (tS 127 c2 0 0)] ++ flM (K3f18 more) [true, bx] [c2, c3]) x2 := dz
       replace fn : Mem ⟨w, h, noX⟩ fc (K3e1 d e f which l g) (K3p20 more x42) [⟨c2, 0, 0, 24, 6, ([] : List Value), 0⟩, (flr (K3e1 d e f which l g) ⟨4, 131, 24, 6, 1, (K3c9 more)⟩ bx c3)] zj := fn
       refine ⟨_, rfl, rfl, fun K hK => ?_⟩
       obtain ⟨ey, fj, wm, _⟩ := id hr_l
       obtain ⟨h9, uw⟩ := app_some ex129
       refine wp_append 0 48 l.length _ (x129.length) _ ey dz fn rfl rfl (by decide) rfl (by rfl) (by kernel_rfl) (by rfl) (by rfl) (Cells.len fj) (wm.cell fn.has fj.one) fj.one (by rw [h9]; simp <;> omega) (by rw [h9]; exact uw) (by decide) fun e1 e6 jk x3 zk o0 (pt : Kn 228 (K3e1 d e f which l g) ([(tS 129 e1 x129.length e6), (tA 130 (K3c9 more)), (tS 128 a_l l.length c_l), (tS 11 a x50.1.length b), (tP 10 2 0), (tI 9 x35), (tP 6 0 0), (tS 0 a_l l.length c_l), (tS 127 c2 0 0)] ++ flM (K3f18 more) [true, bx] [c2, c3]) x3) (ku : Mem ⟨w, h, noX⟩ fc (K3e1 d e f which l g) (K3p20 more x42) [⟨e1, x129.length, e6, 24, 6, (([] : List Value) ++ ey), jk⟩, (flr (K3e1 d e f which l g) ⟨4, 131, 24, 6, 1, (K3c9 more)⟩ bx c3)] zk) => ?_
       have og : Cells fc x129 (([] : List Value) ++ ey) := by rw [h9]; exact Cells.append oe fj
       obtain rfl : jk = 0 := Nat.le_zero.1 o0
       refine hK _ _ ku.plOk ?_
       refine D_perm (flD [⟨4, 131, 24, 6, 1, (K3c9 more)⟩] [bx] ++ [2, 0, 3, 1]) (by cases bx <;> kernel_rfl) (by cases bx <;> rfl) (xn [bx] _ _ ⟨[c3], _, _, _, [⟨e1, x129.length, e6, 24, 6, (([] : List Value) ++ ey), 0⟩], rfl, rfl, rfl, ⟨e1, e6, (([] : List Value) ++ ey), rfl, rfl, kj, og⟩, pt.next [false, true] _ (by kernel_rfl) (by rfl) (by kernel_rfl), ku.pickRows [0, 1] (by kernel_rfl) (by kernel_rfl)⟩)
     exact xk [false, false] _ _ ⟨[none, none], _, _, ((tA 130 (K3c9 more)) :: (tS 128 a_l l.length c_l) :: (K3m23 a x50 b x35 a_l l c_l)), [], rfl, rfl, rfl, ⟨rfl, rfl, (Heap.le_refl _)⟩, te.kp, va⟩
end Go.Proofs.Ytkbphdjemgibnaa
