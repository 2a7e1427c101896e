/- Each call computes its plain function. -/
import Derived.Test.YtokchpjijlebiaaProg
import Derived.Test.YtokchpjijlebiaaPrP0
import Derived.Test.YtokchpjijlebiaaPrWB
set_option linter.all false
namespace Go.Proofs.Ytokchpjijlebiaa
open Go Go.RowKit
open Rep (rep)
open KRep (kv)
open VRep (rv)
abbrev K21c1 (d : Option Addr) (a : Acts) (f : Nat) (e : Option Addr) (g : Nat) (s : Option Addr) (u : Nat) : List SC := [.slice d a.holds.length f, .slice e a.turns.length g, .slice s a.spares.length u]
abbrev K21c2 (i : Option Addr) (b : Acts) (o : Nat) (k : Option Addr) (p : Nat) (l : Option Addr) (q : Nat) : List SC := [.slice i b.holds.length o, .slice k b.turns.length p, .slice l b.spares.length q]
abbrev K21p3 (d : Option Addr) (a : Acts) (f : Nat) (e : Option Addr) (g : Nat) (s : Option Addr) (u : Nat) (i : Option Addr) (b : Acts) (o : Nat) (k : Option Addr) (p : Nat) (l : Option Addr) (q : Nat) : List Plc := [⟨(K21c1 d a f e g s u), some 50⟩, ⟨(K21c2 i b o k p l q), some 50⟩]
abbrev K21m4 : TM := [(tP 3 1 0), (tP 2 0 0)]
set_option maxRecDepth 100000 in
set_option maxHeartbeats 4000000 in
theorem ref_Better_ok (n : Nat) {h : Heap} {w : World} (hh : Has h w) (a : Acts) {cs_a : List Value} (hx_a : rep h a cs_a) (b : Acts) {cs_b : List Value} (hx_b : rep h b cs_b) {r : Bool} (H : ref_Better n a b = some r) :
  Calls Try.prog 21 #[.agg cs_a.toArray, .agg cs_b.toArray] w (Ret (fun h v => v = .bool r) h w) := by
 obtain ⟨_, _, rfl, ⟨d, f, rfl, ae⟩, ⟨_, _, rfl, ⟨e, g, rfl, af⟩, ⟨s, u, rfl, ag⟩⟩⟩ := hx_a
 obtain ⟨_, _, rfl, ⟨i, o, rfl, y⟩, ⟨_, _, rfl, ⟨k, p, rfl, z⟩, ⟨l, q, rfl, aa⟩⟩⟩ := hx_b
 refine enter 109 [.agg (K21c1 d a f e g s u), .agg (K21c2 i b o k p l q)] Try.func21 rfl rfl rfl rfl fun t hk => ?_
 have hm := Mem.begin h w hh
 unfold ref_Better at H
 refine wp_seq (wp_region_from (wl fun K hK => ?_))
 refine wb (.agg (K21c1 d a f e g s u)) hk hm fun m hq h5 (e0 : Kn 109 [(m, 0)] [(tP 2 0 0), (tA 0 (K21c1 d a f e g s u)), (tA 1 (K21c2 i b o k p l q))] hq) (f1 : Mem ⟨w, h, noX⟩ h [(m, 0)] [⟨(K21c1 d a f e g s u), some 50⟩] [] h5) => hK _ _ ?_
 refine wl fun K hK => ?_
 refine wb (.agg (K21c2 i b o k p l q)) e0 f1 fun x ht h6 (e8 : Kn 109 [(m, 0), (x, 0)] [(tP 3 1 0), (tP 2 0 0), (tA 0 (K21c1 d a f e g s u)), (tA 1 (K21c2 i b o k p l q))] ht) (a8 : Mem ⟨w, h, noX⟩ h [(m, 0), (x, 0)] (K21p3 d a f e g s u i b o k p l q) [] h6) => hK _ _ ?_
 refine Rk 2 1 K21m4 e8 a8 fun jc fe => ?_
 refine wf (wp_seq (wp_seq (wp_region_G (by kernel_rfl) ?_)))
 replace a8 := a8.drew
 refine wpG_of_D [] [(m, 0), (x, 0)] (K21p3 d a f e g s u i b o k p l q) ?_
 refine Dr [0, 2] [2, 0] ((tA 10 (K21c2 i b o k p l q)) :: (tA 8 (K21c1 d a f e g s u)) :: K21m4) fe a8 fun jf fh => ?_
 obtain ⟨x9, ex9, H⟩ := bnd H
 refine Dl 1 fun K hK => ?_
 refine wc [.agg (K21c1 d a f e g s u)] fh a8 (ref_Number_ok n a8.has a ((rep_pair (rep_slice ae) (rep_pair (rep_slice af) (rep_slice ag))) : rep h a _) ex9) fun jt dr j3 di a4 cg => ?_
 replace y := y.mono a4
 replace z := z.mono a4
 replace aa := aa.mono a4
 obtain rfl := di
 refine ⟨.one (.c (.int .i64 x9)), rfl, fun hz (fr : Kn 109 [(m, 0), (x, 0)] ((tI 9 x9) :: (tA 10 (K21c2 i b o k p l q)) :: (tA 8 (K21c1 d a f e g s u)) :: K21m4) hz) => hK _ _ cg.plOk ?_⟩
 obtain ⟨x11, ex11, H⟩ := bnd H
 refine Dl 3 fun K hK => ?_
 refine wc [.agg (K21c2 i b o k p l q)] fr cg (ref_Number_ok n cg.has b ((rep_pair (rep_slice y) (rep_pair (rep_slice z) (rep_slice aa))) : rep dr b _) ex11) fun ju c1 j5 dj a5 ah => ?_
 replace ae := ae.mono (Heap.le_trans a4 a5)
 replace af := af.mono (Heap.le_trans a4 a5)
 replace ag := ag.mono (Heap.le_trans a4 a5)
 replace y := y.mono a5
 replace z := z.mono a5
 replace aa := aa.mono a5
 obtain rfl := dj
 refine ⟨.one (.c (.int .i64 x11)), rfl, fun h0 (fs : Kn 109 [(m, 0), (x, 0)] ((tI 11 x11) :: (tI 9 x9) :: (tA 10 (K21c2 i b o k p l q)) :: (tA 8 (K21c1 d a f e g s u)) :: K21m4) h0) => hK _ _ ah.plOk ?_⟩
 refine Dr [4] [4, 3, 1, 2, 0] ((tB 12 (x9 != x11)) :: K21m4) fs ah fun jm b5 => ?_
 refine wpD_end (by kernel_rfl) (wC ((x9 != x11)) b5 (fun bw => ?_) (fun bw => ?_))
 ·
  rw [bw, cond_true] at H
  refine wp_seq (wp_region_G (by kernel_rfl) ?_)
  replace ah := ah.drew
  refine wpG_of_D [] [(m, 0), (x, 0)] (K21p3 d a f e g s u i b o k p l q) ?_
  refine Dr [0, 2] [2, 0] [(tA 15 (K21c2 i b o k p l q)), (tA 13 (K21c1 d a f e g s u))] b5 ah fun jn ft => ?_
  obtain ⟨x14, ex14, H⟩ := bnd H
  refine Dl 1 fun K hK => ?_
  refine wc [.agg (K21c1 d a f e g s u)] ft ah (ref_Number_ok n ah.has a ((rep_pair (rep_slice ae) (rep_pair (rep_slice af) (rep_slice ag))) : rep c1 a _) ex14) fun jv ds j6 dk b7 ch => ?_
  replace y := y.mono b7
  replace z := z.mono b7
  replace aa := aa.mono b7
  obtain rfl := dk
  refine ⟨.one (.c (.int .i64 x14)), rfl, fun h1 (fu : Kn 109 [(m, 0), (x, 0)] [(tI 14 x14), (tA 15 (K21c2 i b o k p l q)), (tA 13 (K21c1 d a f e g s u))] h1) => hK _ _ ch.plOk ?_⟩
  obtain ⟨x16, ex16, H⟩ := bnd H
  refine Dl 3 fun K hK => ?_
  refine wc [.agg (K21c2 i b o k p l q)] fu ch (ref_Number_ok n ch.has b ((rep_pair (rep_slice y) (rep_pair (rep_slice z) (rep_slice aa))) : rep ds b _) ex16) fun jw il j7 dl ip ci => ?_
  obtain rfl := dl
  refine ⟨.one (.c (.int .i64 x16)), rfl, fun h2 (fv : Kn 109 [(m, 0), (x, 0)] [(tI 16 x16), (tI 14 x14), (tA 15 (K21c2 i b o k p l q)), (tA 13 (K21c1 d a f e g s u))] h2) => hK _ _ ci.plOk ?_⟩
  refine Dr [4, 5] [5, 4, 3, 1, 2, 0] [(tB 4 (decide (x14 < x16)))] fv ci fun jo fw => ?_
  refine wpD_end (by kernel_rfl) (wp_ret ?_)
  obtain rfl := Option.some.inj H
  exact rt (.one (.c (.bool (decide (x14 < x16))))) fw ci rfl
 ·
  rw [bw, cond_false] at H
  refine wp_skip (wp_seq (wp_seq (wp_region_G (by kernel_rfl) ?_)))
  replace ah := ah.drew
  refine wpG_of_D [] [(m, 0), (x, 0)] (K21p3 d a f e g s u i b o k p l q) ?_
  refine Dr [0, 2] [2, 0] ((tA 20 (K21c2 i b o k p l q)) :: (tA 18 (K21c1 d a f e g s u)) :: K21m4) b5 ah fun jp fx => ?_
  obtain ⟨x19, ex19, H⟩ := bnd H
  refine Dl 1 fun K hK => ?_
  refine wc [.agg (K21c1 d a f e g s u)] fx ah (ref_Sum_ok n ah.has a ((rep_pair (rep_slice ae) (rep_pair (rep_slice af) (rep_slice ag))) : rep c1 a _) ex19) fun jx dt j8 dm a6 cj => ?_
  replace y := y.mono a6
  replace z := z.mono a6
  replace aa := aa.mono a6
  obtain rfl := dm
  refine ⟨.one (.c (.int .i64 x19)), rfl, fun h3 (fy : Kn 109 [(m, 0), (x, 0)] ((tI 19 x19) :: (tA 20 (K21c2 i b o k p l q)) :: (tA 18 (K21c1 d a f e g s u)) :: K21m4) h3) => hK _ _ cj.plOk ?_⟩
  obtain ⟨x21, ex21, H⟩ := bnd H
  refine Dl 3 fun K hK => ?_
  refine wc [.agg (K21c2 i b o k p l q)] fy cj (ref_Sum_ok n cj.has b ((rep_pair (rep_slice y) (rep_pair (rep_slice z) (rep_slice aa))) : rep dt b _) ex21) fun jy bp j9 dp a7 ak => ?_
  replace ae := ae.mono (Heap.le_trans a6 a7)
  replace af := af.mono (Heap.le_trans a6 a7)
  replace ag := ag.mono (Heap.le_trans a6 a7)
  replace y := y.mono a7
  replace z := z.mono a7
  replace aa := aa.mono a7
  obtain rfl := dp
  refine ⟨.one (.c (.int .i64 x21)), rfl, fun h4 (fz : Kn 109 [(m, 0), (x, 0)] ((tI 21 x21) :: (tI 19 x19) :: (tA 20 (K21c2 i b o k p l q)) :: (tA 18 (K21c1 d a f e g s u)) :: K21m4) h4) => hK _ _ ak.plOk ?_⟩
  refine Dr [4] [4, 3, 1, 2, 0] ((tB 22 (x19 != x21)) :: K21m4) fz ak fun jq b6 => ?_
  refine wpD_end (by kernel_rfl) (wC ((x19 != x21)) b6 (fun bx => ?_) (fun bx => ?_))
  ·
   rw [bx, cond_true] at H
   refine wp_seq (wp_region_G (by kernel_rfl) ?_)
   replace ak := ak.drew
   refine wpG_of_D [] [(m, 0), (x, 0)] (K21p3 d a f e g s u i b o k p l q) ?_
   refine Dr [0, 2] [2, 0] [(tA 25 (K21c2 i b o k p l q)), (tA 23 (K21c1 d a f e g s u))] b6 ak fun jr f0 => ?_
   obtain ⟨x24, ex24, H⟩ := bnd H
   refine Dl 1 fun K hK => ?_
   refine wc [.agg (K21c1 d a f e g s u)] f0 ak (ref_Sum_ok n ak.has a ((rep_pair (rep_slice ae) (rep_pair (rep_slice af) (rep_slice ag))) : rep bp a _) ex24) fun jz du ka dq b8 b9 => ?_
   replace y := y.mono b8
   replace z := z.mono b8
   replace aa := aa.mono b8
   obtain rfl := dq
   refine ⟨.one (.c (.int .i64 x24)), rfl, fun hg (eh : Kn 109 [(m, 0), (x, 0)] [(tI 24 x24), (tA 25 (K21c2 i b o k p l q)), (tA 23 (K21c1 d a f e g s u))] hg) => hK _ _ b9.plOk ?_⟩
   obtain ⟨x26, ex26, H⟩ := bnd H
   refine Dl 3 fun K hK => ?_
   refine wc [.agg (K21c2 i b o k p l q)] eh b9 (ref_Sum_ok n b9.has b ((rep_pair (rep_slice y) (rep_pair (rep_slice z) (rep_slice aa))) : rep du b _) ex26) fun js ik j0 dh im ca => ?_
   obtain rfl := dh
   refine ⟨.one (.c (.int .i64 x26)), rfl, fun hi (ei : Kn 109 [(m, 0), (x, 0)] [(tI 26 x26), (tI 24 x24), (tA 25 (K21c2 i b o k p l q)), (tA 23 (K21c1 d a f e g s u))] hi) => hK _ _ ca.plOk ?_⟩
   refine Dr [4, 5] [5, 4, 3, 1, 2, 0] [(tB 4 (decide (x24 < x26)))] ei ca fun iq ej => ?_
   refine wpD_end (by kernel_rfl) (wp_ret ?_)
   obtain rfl := Option.some.inj H
   exact rt (.one (.c (.bool (decide (x24 < x26))))) ej ca rfl
  ·
   rw [bx, cond_false] at H
   refine wp_skip (wp_seq (wp_seq (wp_region_from (Rk 0 1 ((tI 5 0) :: K21m4) b6 ak fun ir ek => ?_))))
   refine wf ?_
   obtain ⟨c8, cy, H⟩ := bnd H
   refine wp_mid' (fun a' w' => ∃ (de : Unit) (cn : Array Value) (ba : Heap), a' = ⟨cn, []⟩ ∧ Kn 109 [(m, 0), (x, 0)] K21m4 cn ∧ Mem ⟨w, h, noX⟩ ba [(m, 0), (x, 0)] (K21p3 d a f e g s u i b o k p l q) [] w' ∧ Heap.le bp ba ∧ c8 = .go de) ?_ ?_
   ·
    refine wp_block ?_
    refine wp_loop_n (fun hd a' w' => ∃ (x_v10 : Int) (co : Array Value) (ar : Heap), a' = ⟨co, []⟩ ∧ Kn 109 [(m, 0), (x, 0)] ((tI 5 x_v10) :: K21m4) co ∧ Mem ⟨w, h, noX⟩ ar [(m, 0), (x, 0)] (K21p3 d a f e g s u i b o k p l q) [] w' ∧ Heap.le bp ar ∧ ref_Better_l1 hd a b x_v10 = some c8) n ?_ ?_
    ·
     exact Exists.intro 0 ⟨_, _, rfl, ek.kp, ak, (Heap.le_refl _), cy⟩
    ·
     rintro ck _ bm ⟨x_v10, co, ar, rfl, el, av, bg, ab⟩
     clear cy
     obtain _ | ck := ck
     ·
      rw [ref_Better_l1] at ab; cases ab
     rw [ref_Better_l1] at ab
     replace ae := ae.mono bg
     replace y := y.mono bg
     refine wp_seq (wp_seq (wp_region_from (Rk 0 5 ((tB 32 (decide (x_v10 < ((a.holds.length : Nat) : Int)))) :: (tI 5 x_v10) :: K21m4) el av fun iu bz => ?_)))
     refine wf (wC (decide (x_v10 < ((a.holds.length : Nat) : Int))) bz (fun bq => ?_) (fun bq => ?_))
     ·
      rw [bq, cond_true] at ab
      refine wp_skip (wp_seq (wp_block (wp_seq (wp_region_G (by kernel_rfl) ?_))))
      replace av := av.drew
      refine wpG_of_D [] [(m, 0), (x, 0)] (K21p3 d a f e g s u i b o k p l q) ?_
      refine Dr [0, 1, 2] [2, 1, 0] ((tI 37 x_v10) :: (tS 36 d a.holds.length f) :: (tI 5 x_v10) :: K21m4) bz av fun iv em => ?_
      obtain ⟨x38, ex38, ab⟩ := bnd ab
      obtain ⟨f2, gd, g2⟩ := idx_some ex38
      obtain ⟨ai, al, h7, dv, gq, d6⟩ := ae.get (by decide) g2
      obtain rfl := gq
      have cb : Mem ⟨w, h, noX⟩ ar [(m, 0), (x, 0), (ai, al + (x_v10 : Int).toNat * 1)] [⟨(K21c1 d a f e g s u), some 50⟩, ⟨(K21c2 i b o k p l q), some 50⟩, ⟨[.int .i64 x38], none⟩] [] (World.drew bm) := av.addPlc (cs := [.int .i64 x38]) (fun j c hj => d6 j _ (map_get hj)) rfl (by kernel_rfl) (by kernel_rfl)
      refine D_index 3 (x_v10) [.int .i64 x38] (fun _ _ _ _ _ h => h) rfl rfl (rfl) rfl (by decide) (by kernel_rfl) (by kernel_rfl) em av.plOk (by rfl) (by rfl) (by rfl) dv (by rfl) f2 gd (by kernel_rfl) fun hl (en : Kn 109 [(m, 0), (x, 0), (ai, al + (x_v10 : Int).toNat * 1)] ((tP 38 2 0) :: (tI 37 x_v10) :: (tS 36 d a.holds.length f) :: (tI 5 x_v10) :: K21m4) hl) => ?_
      refine Dr [4, 5, 6, 7] (dn 7) ((tI 42 x_v10) :: (tS 41 i b.holds.length o) :: (tI 39 x38) :: (tI 5 x_v10) :: K21m4) en cb fun iw eo => ?_
      obtain ⟨x43, ex43, ab⟩ := bnd ab
      obtain ⟨f3, gf, g3⟩ := idx_some ex43
      obtain ⟨ap, ay, h8, dw, gr, d7⟩ := y.get (by decide) g3
      obtain rfl := gr
      have an : Mem ⟨w, h, noX⟩ ar [(m, 0), (x, 0), (ai, al + (x_v10 : Int).toNat * 1), (ap, ay + (x_v10 : Int).toNat * 1)] [⟨(K21c1 d a f e g s u), some 50⟩, ⟨(K21c2 i b o k p l q), some 50⟩, ⟨[.int .i64 x38], none⟩, ⟨[.int .i64 x43], none⟩] [] (World.drew bm) := cb.addPlc (cs := [.int .i64 x43]) (fun j c hj => d7 j _ (map_get hj)) rfl (by kernel_rfl) (by kernel_rfl)
      refine D_index 8 (x_v10) [.int .i64 x43] (fun _ _ _ _ _ h => h) rfl rfl (rfl) rfl (by decide) (by kernel_rfl) (by kernel_rfl) eo cb.plOk (by rfl) (by rfl) (by rfl) dw (by rfl) f3 gf (by kernel_rfl) fun hn (ep : Kn 109 [(m, 0), (x, 0), (ai, al + (x_v10 : Int).toNat * 1), (ap, ay + (x_v10 : Int).toNat * 1)] ((tP 43 3 0) :: (tI 42 x_v10) :: (tS 41 i b.holds.length o) :: (tI 39 x38) :: (tI 5 x_v10) :: K21m4) hn) => ?_
      refine Dr [9, 10] (dn 10) ((tB 45 (x38 != x43)) :: (tI 5 x_v10) :: K21m4) ep an fun ix b0 => ?_
      refine wpD_end (by kernel_rfl) (wC ((x38 != x43)) b0 (fun br => ?_) (fun br => ?_))
      ·
       rw [br, cond_true] at ab
       refine wp_seq (wp_region_G (by kernel_rfl) ?_)
       replace an := an.drew
       refine wpG_of_D [] [(m, 0), (x, 0), (ai, al + (x_v10 : Int).toNat * 1), (ap, ay + (x_v10 : Int).toNat * 1)] [⟨(K21c1 d a f e g s u), some 50⟩, ⟨(K21c2 i b o k p l q), some 50⟩, ⟨[.int .i64 x38], none⟩, ⟨[.int .i64 x43], none⟩] ?_
       refine Dr [0, 1, 2] [2, 1, 0] [(tI 48 x_v10), (tS 47 d a.holds.length f), (tI 5 x_v10), (tP 3 1 0)] b0 an fun iy er => ?_
       obtain ⟨x49, ex49, ab⟩ := bnd ab
       obtain ⟨f4, gg, g4⟩ := idx_some ex49
       obtain ⟨bd, bj, h9, dx, gs, d8⟩ := ae.get (by decide) g4
       obtain rfl := gs
       have cc : Mem ⟨w, h, noX⟩ ar [(m, 0), (x, 0), (ai, al + (x_v10 : Int).toNat * 1), (ap, ay + (x_v10 : Int).toNat * 1), (bd, bj + (x_v10 : Int).toNat * 1)] [⟨(K21c1 d a f e g s u), some 50⟩, ⟨(K21c2 i b o k p l q), some 50⟩, ⟨[.int .i64 x38], none⟩, ⟨[.int .i64 x43], none⟩, ⟨[.int .i64 x49], none⟩] [] (World.drew (World.drew bm)) := an.addPlc (cs := [.int .i64 x49]) (fun j c hj => d8 j _ (map_get hj)) rfl (by kernel_rfl) (by kernel_rfl)
       refine D_index 3 (x_v10) [.int .i64 x49] (fun _ _ _ _ _ h => h) rfl rfl (rfl) rfl (by decide) (by kernel_rfl) (by kernel_rfl) er an.plOk (by rfl) (by rfl) (by rfl) dx (by rfl) f4 gg (by kernel_rfl) fun ho (es : Kn 109 [(m, 0), (x, 0), (ai, al + (x_v10 : Int).toNat * 1), (ap, ay + (x_v10 : Int).toNat * 1), (bd, bj + (x_v10 : Int).toNat * 1)] [(tP 49 4 0), (tI 48 x_v10), (tS 47 d a.holds.length f), (tI 5 x_v10), (tP 3 1 0)] ho) => ?_
       refine Dr [4, 5, 6, 7] (dn 7) [(tI 53 x_v10), (tS 52 i b.holds.length o), (tI 50 x49)] es cc fun iz et => ?_
       obtain ⟨x54, ex54, ab⟩ := bnd ab
       obtain ⟨f5, gh, g5⟩ := idx_some ex54
       obtain ⟨cv, c9, ia, dy, gu, d9⟩ := y.get (by decide) g5
       obtain rfl := gu
       have c2 : Mem ⟨w, h, noX⟩ ar [(m, 0), (x, 0), (ai, al + (x_v10 : Int).toNat * 1), (ap, ay + (x_v10 : Int).toNat * 1), (bd, bj + (x_v10 : Int).toNat * 1), (cv, c9 + (x_v10 : Int).toNat * 1)] [⟨(K21c1 d a f e g s u), some 50⟩, ⟨(K21c2 i b o k p l q), some 50⟩, ⟨[.int .i64 x38], none⟩, ⟨[.int .i64 x43], none⟩, ⟨[.int .i64 x49], none⟩, ⟨[.int .i64 x54], none⟩] [] (World.drew (World.drew bm)) := cc.addPlc (cs := [.int .i64 x54]) (fun j c hj => d9 j _ (map_get hj)) rfl (by kernel_rfl) (by kernel_rfl)
       refine D_index 8 (x_v10) [.int .i64 x54] (fun _ _ _ _ _ h => h) rfl rfl (rfl) rfl (by decide) (by kernel_rfl) (by kernel_rfl) et cc.plOk (by rfl) (by rfl) (by rfl) dy (by rfl) f5 gh (by kernel_rfl) fun hp (eu : Kn 109 [(m, 0), (x, 0), (ai, al + (x_v10 : Int).toNat * 1), (ap, ay + (x_v10 : Int).toNat * 1), (bd, bj + (x_v10 : Int).toNat * 1), (cv, c9 + (x_v10 : Int).toNat * 1)] [(tP 54 5 0), (tI 53 x_v10), (tS 52 i b.holds.length o), (tI 50 x49)] hp) => ?_
       refine Dr [9, 10, 11] (dn 11) [(tB 4 (decide (x49 < x54)))] eu c2 fun i0 ev => ?_
       refine wpD_end (by kernel_rfl) (wp_ret ?_)
       obtain rfl := Option.some.inj ab
       obtain rfl := Option.some.inj H
       exact rt (.one (.c (.bool (decide (x49 < x54))))) ev c2 rfl
      ·
       rw [br, cond_false] at ab
       refine wp_skip (wp_region_from (Rk 0 3 ((tI 5 (IntKind.i64.wrap (x_v10 + 1))) :: K21m4) b0 an fun i1 ew => ?_))
       refine wf ?_
       exact Exists.intro ck ⟨Nat.lt_succ_self _, Exists.intro (IntKind.i64.wrap (x_v10 + 1)) ⟨_, _, rfl, ((ew.keep [5, 3, 2] (by rfl)).cut 2 (by kernel_rfl)), (an.cutPl 2 (by kernel_rfl)), bg, ab⟩⟩
     ·
      rw [bq, cond_false] at ab
      refine wp_exit ?_
      obtain rfl := Option.some.inj ab
      exact Exists.intro () ⟨_, _, rfl, bz.kp, av, bg, rfl⟩
   ·
    rintro _ j1 ⟨de, cn, ba, rfl, ex, c3, a2, rfl⟩
    rw [Ex.bind_go] at H
    replace ae := ae.mono a2
    replace af := af.mono a2
    replace ag := ag.mono a2
    replace y := y.mono a2
    replace z := z.mono a2
    replace aa := aa.mono a2
    refine wp_seq (wp_seq (wp_region_from (Rk 0 1 ((tI 6 0) :: K21m4) ex c3 fun i2 ey => ?_)))
    refine wf ?_
    obtain ⟨da, cz, H⟩ := bnd H
    refine wp_mid' (fun a' w' => ∃ (df : Unit) (cp : Array Value) (bb : Heap), a' = ⟨cp, []⟩ ∧ Kn 109 [(m, 0), (x, 0)] K21m4 cp ∧ Mem ⟨w, h, noX⟩ bb [(m, 0), (x, 0)] (K21p3 d a f e g s u i b o k p l q) [] w' ∧ Heap.le ba bb ∧ da = .go df) ?_ ?_
    ·
     refine wp_block ?_
     refine wp_loop_n (fun he a' w' => ∃ (x_v20 : Int) (cq : Array Value) (au : Heap), a' = ⟨cq, []⟩ ∧ Kn 109 [(m, 0), (x, 0)] ((tI 6 x_v20) :: K21m4) cq ∧ Mem ⟨w, h, noX⟩ au [(m, 0), (x, 0)] (K21p3 d a f e g s u i b o k p l q) [] w' ∧ Heap.le ba au ∧ ref_Better_l2 he a b x_v20 = some da) n ?_ ?_
     ·
      exact Exists.intro 0 ⟨_, _, rfl, ey.kp, c3, (Heap.le_refl _), cz⟩
     ·
      rintro cl _ bn ⟨x_v20, cq, au, rfl, ez, aw, bh, ac⟩
      clear cz
      obtain _ | cl := cl
      ·
       rw [ref_Better_l2] at ac; cases ac
      rw [ref_Better_l2] at ac
      replace af := af.mono bh
      replace z := z.mono bh
      refine wp_seq (wp_seq (wp_region_from (Rk 0 5 ((tB 61 (decide (x_v20 < ((a.turns.length : Nat) : Int)))) :: (tI 6 x_v20) :: K21m4) ez aw fun i3 b1 => ?_)))
      refine wf (wC (decide (x_v20 < ((a.turns.length : Nat) : Int))) b1 (fun bs => ?_) (fun bs => ?_))
      ·
       rw [bs, cond_true] at ac
       refine wp_skip (wp_seq (wp_block (wp_seq (wp_region_G (by kernel_rfl) ?_))))
       replace aw := aw.drew
       refine wpG_of_D [] [(m, 0), (x, 0)] (K21p3 d a f e g s u i b o k p l q) ?_
       refine Dr [0, 1, 2] [2, 1, 0] ((tI 66 x_v20) :: (tS 65 e a.turns.length g) :: (tI 6 x_v20) :: K21m4) b1 aw fun i4 e1 => ?_
       obtain ⟨x67, ex67, ac⟩ := bnd ac
       obtain ⟨f6, gi, g6⟩ := idx_some ex67
       obtain ⟨aj, am, ib, dz, gv, ea⟩ := af.get (by decide) g6
       obtain rfl := gv
       have cd : Mem ⟨w, h, noX⟩ au [(m, 0), (x, 0), (aj, am + (x_v20 : Int).toNat * 1)] [⟨(K21c1 d a f e g s u), some 50⟩, ⟨(K21c2 i b o k p l q), some 50⟩, ⟨[.int .i64 x67], none⟩] [] (World.drew bn) := aw.addPlc (cs := [.int .i64 x67]) (fun j c hj => ea j _ (map_get hj)) rfl (by kernel_rfl) (by kernel_rfl)
       refine D_index 3 (x_v20) [.int .i64 x67] (fun _ _ _ _ _ h => h) rfl rfl (rfl) rfl (by decide) (by kernel_rfl) (by kernel_rfl) e1 aw.plOk (by rfl) (by rfl) (by rfl) dz (by rfl) f6 gi (by kernel_rfl) fun hr (e2 : Kn 109 [(m, 0), (x, 0), (aj, am + (x_v20 : Int).toNat * 1)] ((tP 67 2 0) :: (tI 66 x_v20) :: (tS 65 e a.turns.length g) :: (tI 6 x_v20) :: K21m4) hr) => ?_
       refine Dr [4, 5, 6, 7] (dn 7) ((tI 71 x_v20) :: (tS 70 k b.turns.length p) :: (tI 68 x67) :: (tI 6 x_v20) :: K21m4) e2 cd fun i5 e3 => ?_
       obtain ⟨x72, ex72, ac⟩ := bnd ac
       obtain ⟨f7, gj, g7⟩ := idx_some ex72
       obtain ⟨aq, az, ic, d0, gw, eb⟩ := z.get (by decide) g7
       obtain rfl := gw
       have ao : Mem ⟨w, h, noX⟩ au [(m, 0), (x, 0), (aj, am + (x_v20 : Int).toNat * 1), (aq, az + (x_v20 : Int).toNat * 1)] [⟨(K21c1 d a f e g s u), some 50⟩, ⟨(K21c2 i b o k p l q), some 50⟩, ⟨[.int .i64 x67], none⟩, ⟨[.int .i64 x72], none⟩] [] (World.drew bn) := cd.addPlc (cs := [.int .i64 x72]) (fun j c hj => eb j _ (map_get hj)) rfl (by kernel_rfl) (by kernel_rfl)
       refine D_index 8 (x_v20) [.int .i64 x72] (fun _ _ _ _ _ h => h) rfl rfl (rfl) rfl (by decide) (by kernel_rfl) (by kernel_rfl) e3 cd.plOk (by rfl) (by rfl) (by rfl) d0 (by rfl) f7 gj (by kernel_rfl) fun hs (e4 : Kn 109 [(m, 0), (x, 0), (aj, am + (x_v20 : Int).toNat * 1), (aq, az + (x_v20 : Int).toNat * 1)] ((tP 72 3 0) :: (tI 71 x_v20) :: (tS 70 k b.turns.length p) :: (tI 68 x67) :: (tI 6 x_v20) :: K21m4) hs) => ?_
       refine Dr [9, 10] (dn 10) ((tB 74 (x67 != x72)) :: (tI 6 x_v20) :: K21m4) e4 ao fun i6 b2 => ?_
       refine wpD_end (by kernel_rfl) (wC ((x67 != x72)) b2 (fun bt => ?_) (fun bt => ?_))
       ·
        rw [bt, cond_true] at ac
        refine wp_seq (wp_region_G (by kernel_rfl) ?_)
        replace ao := ao.drew
        refine wpG_of_D [] [(m, 0), (x, 0), (aj, am + (x_v20 : Int).toNat * 1), (aq, az + (x_v20 : Int).toNat * 1)] [⟨(K21c1 d a f e g s u), some 50⟩, ⟨(K21c2 i b o k p l q), some 50⟩, ⟨[.int .i64 x67], none⟩, ⟨[.int .i64 x72], none⟩] ?_
        refine Dr [0, 1, 2] [2, 1, 0] [(tI 77 x_v20), (tS 76 e a.turns.length g), (tI 6 x_v20), (tP 3 1 0)] b2 ao fun i7 e5 => ?_
        obtain ⟨x78, ex78, ac⟩ := bnd ac
        obtain ⟨f8, gk, g8⟩ := idx_some ex78
        obtain ⟨be, bk, ie, d1, gx, ec⟩ := af.get (by decide) g8
        obtain rfl := gx
        have ce : Mem ⟨w, h, noX⟩ au [(m, 0), (x, 0), (aj, am + (x_v20 : Int).toNat * 1), (aq, az + (x_v20 : Int).toNat * 1), (be, bk + (x_v20 : Int).toNat * 1)] [⟨(K21c1 d a f e g s u), some 50⟩, ⟨(K21c2 i b o k p l q), some 50⟩, ⟨[.int .i64 x67], none⟩, ⟨[.int .i64 x72], none⟩, ⟨[.int .i64 x78], none⟩] [] (World.drew (World.drew bn)) := ao.addPlc (cs := [.int .i64 x78]) (fun j c hj => ec j _ (map_get hj)) rfl (by kernel_rfl) (by kernel_rfl)
        refine D_index 3 (x_v20) [.int .i64 x78] (fun _ _ _ _ _ h => h) rfl rfl (rfl) rfl (by decide) (by kernel_rfl) (by kernel_rfl) e5 ao.plOk (by rfl) (by rfl) (by rfl) d1 (by rfl) f8 gk (by kernel_rfl) fun hu (e6 : Kn 109 [(m, 0), (x, 0), (aj, am + (x_v20 : Int).toNat * 1), (aq, az + (x_v20 : Int).toNat * 1), (be, bk + (x_v20 : Int).toNat * 1)] [(tP 78 4 0), (tI 77 x_v20), (tS 76 e a.turns.length g), (tI 6 x_v20), (tP 3 1 0)] hu) => ?_
        refine Dr [4, 5, 6, 7] (dn 7) [(tI 82 x_v20), (tS 81 k b.turns.length p), (tI 79 x78)] e6 ce fun i8 e7 => ?_
        obtain ⟨x83, ex83, ac⟩ := bnd ac
        obtain ⟨f9, gl, g9⟩ := idx_some ex83
        obtain ⟨cw, db, ig, d2, gy, ed⟩ := z.get (by decide) g9
        obtain rfl := gy
        have c4 : Mem ⟨w, h, noX⟩ au [(m, 0), (x, 0), (aj, am + (x_v20 : Int).toNat * 1), (aq, az + (x_v20 : Int).toNat * 1), (be, bk + (x_v20 : Int).toNat * 1), (cw, db + (x_v20 : Int).toNat * 1)] [⟨(K21c1 d a f e g s u), some 50⟩, ⟨(K21c2 i b o k p l q), some 50⟩, ⟨[.int .i64 x67], none⟩, ⟨[.int .i64 x72], none⟩, ⟨[.int .i64 x78], none⟩, ⟨[.int .i64 x83], none⟩] [] (World.drew (World.drew bn)) := ce.addPlc (cs := [.int .i64 x83]) (fun j c hj => ed j _ (map_get hj)) rfl (by kernel_rfl) (by kernel_rfl)
        refine D_index 8 (x_v20) [.int .i64 x83] (fun _ _ _ _ _ h => h) rfl rfl (rfl) rfl (by decide) (by kernel_rfl) (by kernel_rfl) e7 ce.plOk (by rfl) (by rfl) (by rfl) d2 (by rfl) f9 gl (by kernel_rfl) fun hv (e9 : Kn 109 [(m, 0), (x, 0), (aj, am + (x_v20 : Int).toNat * 1), (aq, az + (x_v20 : Int).toNat * 1), (be, bk + (x_v20 : Int).toNat * 1), (cw, db + (x_v20 : Int).toNat * 1)] [(tP 83 5 0), (tI 82 x_v20), (tS 81 k b.turns.length p), (tI 79 x78)] hv) => ?_
        refine Dr [9, 10, 11] (dn 11) [(tB 4 (decide (x78 < x83)))] e9 c4 fun i9 fa => ?_
        refine wpD_end (by kernel_rfl) (wp_ret ?_)
        obtain rfl := Option.some.inj ac
        obtain rfl := Option.some.inj H
        exact rt (.one (.c (.bool (decide (x78 < x83))))) fa c4 rfl
       ·
        rw [bt, cond_false] at ac
        refine wp_skip (wp_region_from (Rk 0 3 ((tI 6 (IntKind.i64.wrap (x_v20 + 1))) :: K21m4) b2 ao fun ja fb => ?_))
        refine wf ?_
        exact Exists.intro cl ⟨Nat.lt_succ_self _, Exists.intro (IntKind.i64.wrap (x_v20 + 1)) ⟨_, _, rfl, ((fb.keep [6, 3, 2] (by rfl)).cut 2 (by kernel_rfl)), (ao.cutPl 2 (by kernel_rfl)), bh, ac⟩⟩
      ·
       rw [bs, cond_false] at ac
       refine wp_exit ?_
       obtain rfl := Option.some.inj ac
       exact Exists.intro () ⟨_, _, rfl, b1.kp, aw, bh, rfl⟩
    ·
     rintro _ j2 ⟨df, cp, bb, rfl, fc, c5, a3, rfl⟩
     rw [Ex.bind_go] at H
     replace ae := ae.mono a3
     replace af := af.mono a3
     replace ag := ag.mono a3
     replace y := y.mono a3
     replace z := z.mono a3
     replace aa := aa.mono a3
     refine wp_seq (wp_seq (wp_region_from (Rk 0 1 ((tI 7 0) :: K21m4) fc c5 fun jb fd => ?_)))
     refine wf ?_
     obtain ⟨dc, c0, H⟩ := bnd H
     refine wp_mid' (fun a' w' => ∃ (dg : Unit) (cr : Array Value) (bo : Heap), a' = ⟨cr, []⟩ ∧ Kn 109 [(m, 0), (x, 0)] [] cr ∧ Mem ⟨w, h, noX⟩ bo [(m, 0), (x, 0)] (K21p3 d a f e g s u i b o k p l q) [] w' ∧ Heap.le bb bo ∧ dc = .go dg) ?_ ?_
     ·
      refine wp_block ?_
      refine wp_loop_n (fun hf a' w' => ∃ (x_v30 : Int) (ct : Array Value) (a1 : Heap), a' = ⟨ct, []⟩ ∧ Kn 109 [(m, 0), (x, 0)] ((tI 7 x_v30) :: K21m4) ct ∧ Mem ⟨w, h, noX⟩ a1 [(m, 0), (x, 0)] (K21p3 d a f e g s u i b o k p l q) [] w' ∧ Heap.le bb a1 ∧ ref_Better_l3 hf a b x_v30 = some dc) n ?_ ?_
      ·
       exact Exists.intro 0 ⟨_, _, rfl, fd.kp, c5, (Heap.le_refl _), c0⟩
      ·
       rintro cm _ cu ⟨x_v30, ct, a1, rfl, ff, ax, bi, ad⟩
       clear c0
       obtain _ | cm := cm
       ·
        rw [ref_Better_l3] at ad; cases ad
       rw [ref_Better_l3] at ad
       replace ag := ag.mono bi
       replace aa := aa.mono bi
       refine wp_seq (wp_seq (wp_region_from (Rk 0 5 ((tB 90 (decide (x_v30 < ((a.spares.length : Nat) : Int)))) :: (tI 7 x_v30) :: K21m4) ff ax fun jd b3 => ?_)))
       refine wf (wC (decide (x_v30 < ((a.spares.length : Nat) : Int))) b3 (fun bu => ?_) (fun bu => ?_))
       ·
        rw [bu, cond_true] at ad
        refine wp_skip (wp_seq (wp_block (wp_seq (wp_region_G (by kernel_rfl) ?_))))
        replace ax := ax.drew
        refine wpG_of_D [] [(m, 0), (x, 0)] (K21p3 d a f e g s u i b o k p l q) ?_
        refine Dr [0, 1, 2] [2, 1, 0] ((tI 95 x_v30) :: (tS 94 s a.spares.length u) :: (tI 7 x_v30) :: K21m4) b3 ax fun je fg => ?_
        obtain ⟨x96, ex96, ad⟩ := bnd ad
        obtain ⟨ga, gm, ha⟩ := idx_some ex96
        obtain ⟨a0, a9, ih, d3, gz, ee⟩ := ag.get (by decide) ha
        obtain rfl := gz
        have cf : Mem ⟨w, h, noX⟩ a1 [(m, 0), (x, 0), (a0, a9 + (x_v30 : Int).toNat * 1)] [⟨(K21c1 d a f e g s u), some 50⟩, ⟨(K21c2 i b o k p l q), some 50⟩, ⟨[.bool x96], none⟩] [] (World.drew cu) := ax.addPlc (cs := [.bool x96]) (fun j c hj => ee j _ (map_get hj)) rfl (by kernel_rfl) (by kernel_rfl)
        refine D_index 3 (x_v30) [.bool x96] (fun _ _ _ _ _ h => h) rfl rfl (rfl) rfl (by decide) (by kernel_rfl) (by kernel_rfl) fg ax.plOk (by rfl) (by rfl) (by rfl) d3 (by rfl) ga gm (by kernel_rfl) fun hw (fi : Kn 109 [(m, 0), (x, 0), (a0, a9 + (x_v30 : Int).toNat * 1)] ((tP 96 2 0) :: (tI 95 x_v30) :: (tS 94 s a.spares.length u) :: (tI 7 x_v30) :: K21m4) hw) => ?_
        refine Dr [4, 5, 6, 7] (dn 7) ((tI 100 x_v30) :: (tS 99 l b.spares.length q) :: (tB 97 x96) :: (tI 7 x_v30) :: K21m4) fi cf fun jg fj => ?_
        obtain ⟨x101, ex101, ad⟩ := bnd ad
        obtain ⟨gb, gn, hb⟩ := idx_some ex101
        obtain ⟨bf, bl, ii, d4, g0, ef⟩ := aa.get (by decide) hb
        obtain rfl := g0
        have bc : Mem ⟨w, h, noX⟩ a1 [(m, 0), (x, 0), (a0, a9 + (x_v30 : Int).toNat * 1), (bf, bl + (x_v30 : Int).toNat * 1)] [⟨(K21c1 d a f e g s u), some 50⟩, ⟨(K21c2 i b o k p l q), some 50⟩, ⟨[.bool x96], none⟩, ⟨[.bool x101], none⟩] [] (World.drew cu) := cf.addPlc (cs := [.bool x101]) (fun j c hj => ef j _ (map_get hj)) rfl (by kernel_rfl) (by kernel_rfl)
        refine D_index 8 (x_v30) [.bool x101] (fun _ _ _ _ _ h => h) rfl rfl (rfl) rfl (by decide) (by kernel_rfl) (by kernel_rfl) fj cf.plOk (by rfl) (by rfl) (by rfl) d4 (by rfl) gb gn (by kernel_rfl) fun hx (fk : Kn 109 [(m, 0), (x, 0), (a0, a9 + (x_v30 : Int).toNat * 1), (bf, bl + (x_v30 : Int).toNat * 1)] ((tP 101 3 0) :: (tI 100 x_v30) :: (tS 99 l b.spares.length q) :: (tB 97 x96) :: (tI 7 x_v30) :: K21m4) hx) => ?_
        refine Dr [9, 10] (dn 10) ((tB 103 (!(x96 == x101))) :: (tI 7 x_v30) :: K21m4) fk bc fun jh b4 => ?_
        refine wpD_end (by kernel_rfl) (wC ((!(x96 == x101))) b4 (fun bv => ?_) (fun bv => ?_))
        ·
         rw [bv, cond_true] at ad
         refine wp_seq (wp_region_from (Rk 0 3 [(tI 106 x_v30), (tS 105 l b.spares.length q)] b4 bc fun ji fl => ?_))
         obtain ⟨x107, ex107, ad⟩ := bnd ad
         obtain ⟨gc, gp, hc⟩ := idx_some ex107
         obtain ⟨cx, dd, ij, d5, g1, eg⟩ := aa.get (by decide) hc
         obtain rfl := g1
         have c6 : Mem ⟨w, h, noX⟩ a1 [(m, 0), (x, 0), (a0, a9 + (x_v30 : Int).toNat * 1), (bf, bl + (x_v30 : Int).toNat * 1), (cx, dd + (x_v30 : Int).toNat * 1)] [⟨(K21c1 d a f e g s u), some 50⟩, ⟨(K21c2 i b o k p l q), some 50⟩, ⟨[.bool x96], none⟩, ⟨[.bool x101], none⟩, ⟨[.bool x107], none⟩] [] (World.drew cu) := bc.addPlc (cs := [.bool x107]) (fun j c hj => eg j _ (map_get hj)) rfl (by kernel_rfl) (by kernel_rfl)
         refine R_index 3 (x_v30) rfl rfl (rfl) rfl (by decide) fl (by rfl) (by rfl) (by rfl) d5 (by rfl) gc gp (by kernel_rfl) fun hy (fm : Kn 109 [(m, 0), (x, 0), (a0, a9 + (x_v30 : Int).toNat * 1), (bf, bl + (x_v30 : Int).toNat * 1), (cx, dd + (x_v30 : Int).toNat * 1)] [(tP 107 4 0), (tI 106 x_v30), (tS 105 l b.spares.length q)] hy) => ?_
         refine Rk 4 2 [(tB 4 x107)] fm c6 fun jj fn => ?_
         refine wf (wp_ret ?_)
         obtain rfl := Option.some.inj ad
         obtain rfl := Option.some.inj H
         exact rt (.one (.c (.bool x107))) fn c6 rfl
        ·
         rw [bv, cond_false] at ad
         refine wp_skip (wp_region_from (Rk 0 3 ((tI 7 (IntKind.i64.wrap (x_v30 + 1))) :: K21m4) b4 bc fun jk fo => ?_))
         refine wf ?_
         exact Exists.intro cm ⟨Nat.lt_succ_self _, Exists.intro (IntKind.i64.wrap (x_v30 + 1)) ⟨_, _, rfl, ((fo.keep [7, 3, 2] (by rfl)).cut 2 (by kernel_rfl)), (bc.cutPl 2 (by kernel_rfl)), bi, ad⟩⟩
       ·
        rw [bu, cond_false] at ad
        refine wp_exit ?_
        obtain rfl := Option.some.inj ad
        exact Exists.intro () ⟨_, _, rfl, b3.kp, ax, bi, rfl⟩
     ·
      rintro _ j4 ⟨dg, cr, bo, rfl, fp, c7, io, rfl⟩
      rw [Ex.bind_go] at H
      refine wp_seq (wp_region_from (Rk 0 1 [(tB 4 false)] fp c7 fun jl fq => ?_))
      refine wf (wp_ret ?_)
      obtain rfl := Option.some.inj H
      exact rt (.one (.c (.bool false))) fq c7 rfl
end Go.Proofs.Ytokchpjijlebiaa
