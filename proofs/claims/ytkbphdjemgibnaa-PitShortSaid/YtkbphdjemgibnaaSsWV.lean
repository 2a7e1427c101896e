/- Each call computes its plain function. -/
import Derived.Test.YtkbphdjemgibnaaProg
import Derived.Test.YtkbphdjemgibnaaSsP0
import Derived.Test.YtkbphdjemgibnaaSsWU
set_option linter.all false
namespace Go.Proofs.Ytkbphdjemgibnaa
open Go Go.RowKit
open Rep (rep)
open KRep (kv)
open VRep (rv)
theorem Rest.KL : KL Try.prog 127 Rest := by
  refine KL.struct 5 (by decide) (fun x => [.int .i64 x.bus, .int .i64 x.left.a0, .int .i64 x.left.a1, .int .i64 x.left.a2, .int .i64 x.left.a3, .int .i64 x.left.a4, .int .i64 x.left.a5, .int .i64 x.left.a6, .int .i64 x.left.a7, .int .i64 x.left.a8, .int .i64 x.left.a9, .int .i64 x.left.a10, .int .i64 x.left.a11, .int .i64 x.left.a12, .int .i64 x.left.a13]) (fun _ => rfl) (by kernel_rfl) (fun _ => by kernel_rfl) (fun _ => by kernel_rfl) fun a b => ⟨((a.bus == b.bus) && (((a.left.a0 == b.left.a0) && ((a.left.a1 == b.left.a1) && ((a.left.a2 == b.left.a2) && ((a.left.a3 == b.left.a3) && ((a.left.a4 == b.left.a4) && ((a.left.a5 == b.left.a5) && ((a.left.a6 == b.left.a6) && ((a.left.a7 == b.left.a7) && ((a.left.a8 == b.left.a8) && ((a.left.a9 == b.left.a9) && ((a.left.a10 == b.left.a10) && ((a.left.a11 == b.left.a11) && ((a.left.a12 == b.left.a12) && ((a.left.a13 == b.left.a13) && true)))))))))))))) && true)), by kernel_rfl, ?_⟩
  rcases a with ⟨a0, ⟨a1, a2, a3, a4, a5, a6, a7, a8, a9, a10, a11, a12, a13, a14⟩⟩
  rcases b with ⟨b0, ⟨b1, b2, b3, b4, b5, b6, b7, b8, b9, b10, b11, b12, b13, b14⟩⟩
  simp [and_assoc]
abbrev K75c1 (ae : Option Addr) (x_v11 : List Int) (af : Nat) (x_v12 : Int) : List SC := [.slice ae x_v11.length af, .int .i64 x_v12]
abbrev K75c2 (ap : Option Addr) (ag : ((List Int) × Int × (List (Rest × Done)))) (aq : Nat) : List SC := [.slice ap ag.1.length aq, .int .i64 ag.2.1]
abbrev K75c3 (aa : Option Addr) (x24 : (Done × Bool)) (ab : Nat) : List SC := [.slice aa x24.1.plan.length ab, .int .i64 x24.1.cost]
abbrev K75c4 (x33 : Job) : List SC := [.int .i64 x33.due, .int .i64 x33.work, .int .i64 x33.cost]
abbrev K75c5 (aj : Option Addr) (x65 : (Done × (List (Rest × Done)))) (al : Nat) : List SC := [.slice aj x65.1.plan.length al, .int .i64 x65.1.cost]
abbrev K75c6 (ak : Option Addr) (x65 : (Done × (List (Rest × Done)))) (am : Nat) : List SC := [.slice ak x65.1.plan.length am, .int .i64 x65.1.cost]
abbrev K75c7 (q : Option Addr) (s_ : Shop) (s : Nat) (u : Option Addr) (z : Nat) : List SC := [.slice q s_.buses.length s, .int .i64 s_.days, .slice u s_.pits.length z]
abbrev K75c8 (b_s_ b_known b_find : Nat) : List SC := [.func (.func 75) #[] #[.pointer (some ⟨b_s_, 0, none⟩), .pointer (some ⟨b_known, 0, none⟩), .pointer (some ⟨b_find, 0, none⟩)]]
abbrev K75e9 (b_s_ b_known b_find a b d f g : Nat) (r_ : Rest) (l m : Nat) : Env := [(b_s_, 0), (b_known, 0), (b_find, 0), (a, 0), (b, 0), (d, 0), (f, g + (r_.bus : Int).toNat * 3), (l, 0), (m, 0)]
abbrev K75e10 (b_s_ b_known b_find a b d f g : Nat) (r_ : Rest) (l m p : Nat) : Env := [(b_s_, 0), (b_known, 0), (b_find, 0), (a, 0), (b, 0), (d, 0), (f, g + (r_.bus : Int).toNat * 3), (l, 0), (m, 0), (p, 0)]
abbrev K75e11 (b_s_ b_known b_find a b d f g : Nat) (r_ : Rest) (l m p ah : Nat) : Env := [(b_s_, 0), (b_known, 0), (b_find, 0), (a, 0), (b, 0), (d, 0), (f, g + (r_.bus : Int).toNat * 3), (l, 0), (m, 0), (p, 0), (ah, 0)]
abbrev K75e12 (b_s_ b_known b_find a b d f g : Nat) (r_ : Rest) (l m p ai : Nat) : Env := [(b_s_, 0), (b_known, 0), (b_find, 0), (a, 0), (b, 0), (d, 0), (f, g + (r_.bus : Int).toNat * 3), (l, 0), (m, 0), (p, 0), (ai, 0)]
abbrev K75c13 : List SC := [.int .i64 0, .int .i64 0, .int .i64 0, .int .i64 0, .int .i64 0, .int .i64 0, .int .i64 0, .int .i64 0, .int .i64 0, .int .i64 0, .int .i64 0, .int .i64 0, .int .i64 0, .int .i64 0, .int .i64 0]
abbrev K75c14 (r_ : Rest) (ac : Hours) : List SC := [.int .i64 (IntKind.i64.wrap (r_.bus + 1)), .int .i64 ac.a0, .int .i64 ac.a1, .int .i64 ac.a2, .int .i64 ac.a3, .int .i64 ac.a4, .int .i64 ac.a5, .int .i64 ac.a6, .int .i64 ac.a7, .int .i64 ac.a8, .int .i64 ac.a9, .int .i64 ac.a10, .int .i64 ac.a11, .int .i64 ac.a12, .int .i64 ac.a13]
abbrev K75c15 (r_ : Rest) : List SC := [.int .i64 r_.bus, .int .i64 r_.left.a0, .int .i64 r_.left.a1, .int .i64 r_.left.a2, .int .i64 r_.left.a3, .int .i64 r_.left.a4, .int .i64 r_.left.a5, .int .i64 r_.left.a6, .int .i64 r_.left.a7, .int .i64 r_.left.a8, .int .i64 r_.left.a9, .int .i64 r_.left.a10, .int .i64 r_.left.a11, .int .i64 r_.left.a12, .int .i64 r_.left.a13]
abbrev K75c16 (r_ : Rest) : List SC := [.int .i64 (IntKind.i64.wrap (r_.bus + 1)), .int .i64 r_.left.a0, .int .i64 r_.left.a1, .int .i64 r_.left.a2, .int .i64 r_.left.a3, .int .i64 r_.left.a4, .int .i64 r_.left.a5, .int .i64 r_.left.a6, .int .i64 r_.left.a7, .int .i64 r_.left.a8, .int .i64 r_.left.a9, .int .i64 r_.left.a10, .int .i64 r_.left.a11, .int .i64 r_.left.a12, .int .i64 r_.left.a13]
abbrev K75p17 (q : Option Addr) (s_ : Shop) (s : Nat) (u : Option Addr) (z bm_known b_s_ b_known b_find : Nat) (r_ : Rest) (aa : Option Addr) (x24 : (Done × Bool)) (ab : Nat) (x33 : Job) (ae : Option Addr) (x_v11 : List Int) (af : Nat) (x_v12 : Int) (ak : Option Addr) (x65 : (Done × (List (Rest × Done)))) (am : Nat) : List Plc := [⟨(K75c7 q s_ s u z), none⟩, ⟨[.map (some bm_known)], none⟩, ⟨(K75c8 b_s_ b_known b_find), none⟩, ⟨(K75c15 r_), some 127⟩, ⟨[.slice none 0 0, .int .i64 0], some 129⟩, ⟨(K75c3 aa x24 ab), some 129⟩, ⟨(K75c4 x33), none⟩, ⟨(K75c4 x33), some 120⟩, ⟨(K75c1 ae x_v11 af x_v12), some 129⟩, ⟨(K75c16 r_), some 127⟩, ⟨(K75c6 ak x65 am), some 129⟩]
abbrev K75p18 (q : Option Addr) (s_ : Shop) (s : Nat) (u : Option Addr) (z bm_known b_s_ b_known b_find : Nat) (r_ : Rest) (aa : Option Addr) (x24 : (Done × Bool)) (ab : Nat) (x33 : Job) (ae : Option Addr) (x_v11 : List Int) (af : Nat) (x_v12 : Int) (ac : Hours) (aj : Option Addr) (x65 : (Done × (List (Rest × Done)))) (al : Nat) : List Plc := [⟨(K75c7 q s_ s u z), none⟩, ⟨[.map (some bm_known)], none⟩, ⟨(K75c8 b_s_ b_known b_find), none⟩, ⟨(K75c15 r_), some 127⟩, ⟨[.slice none 0 0, .int .i64 0], some 129⟩, ⟨(K75c3 aa x24 ab), some 129⟩, ⟨(K75c4 x33), none⟩, ⟨(K75c4 x33), some 120⟩, ⟨(K75c1 ae x_v11 af x_v12), some 129⟩, ⟨(K75c14 r_ ac), some 127⟩, ⟨(K75c5 aj x65 al), some 129⟩]
abbrev K75m19 (x_v10 : Int) : TM := [(tI 10 x_v10), (tP 9 8 0), (tP 8 7 0), (tP 5 4 0), (tP 4 3 0), (tP 1 0 0), (tP 2 1 0), (tP 3 2 0)]
abbrev K75m20 : TM := [(tP 5 4 0), (tP 4 3 0), (tP 1 0 0), (tP 2 1 0), (tP 3 2 0)]
abbrev K75m21 (x65 : (Done × (List (Rest × Done)))) (x71 x_v10 : Int) : TM := (tI 13 (IntKind.i64.wrap (x65.1.cost + x71))) :: (tP 12 10 0) :: (K75m19 x_v10)
abbrev K75m22 (b_s_ b_known b_find : Nat) (x_v10 : Int) : TM := (63, .one (.c (.func (.func 75) #[] #[.pointer (some ⟨b_s_, 0, none⟩), .pointer (some ⟨b_known, 0, none⟩), .pointer (some ⟨b_find, 0, none⟩)]))) :: (K75m19 x_v10)
set_option maxRecDepth 100000 in
set_option maxHeartbeats 4000000 in
theorem pit_Best_1_rec (n : Nat) : ∀ (F : Fr) (h : Heap) (w : World) (b_s_ b_known b_find : Nat) (r_ : Rest) (cs_r_ : List Value) (hx_r_ : rep h r_ cs_r_) (s_ : Shop) (hb_s_ : BoxS h b_s_ s_) (known : List (Rest × Done)) (bm_known : Nat) (es_known : Array MapEntry) (cl_known : Nat) (hc_known : CellsAt h b_known [.map (some bm_known)]) (hX_known : F.X bm_known = some (.map es_known cl_known)) (hE_known : Ents h es_known.toList cl_known known) (hc_find : CellsAt h b_find [.func (.func 75) #[] #[.pointer (some ⟨b_s_, 0, none⟩), .pointer (some ⟨b_known, 0, none⟩), .pointer (some ⟨b_find, 0, none⟩)]]) (hm : Mem F h [] [] [] w) (r : Done × (List (Rest × Done))) (H : pit_Best_1 n r_ s_ known = some r),
  Calls Try.prog 75 #[.agg cs_r_.toArray, .pointer (some ⟨b_s_, 0, none⟩), .pointer (some ⟨b_known, 0, none⟩), .pointer (some ⟨b_find, 0, none⟩)] w (RetM fun v w' => ∃ (h' : Heap) (b3 : Array MapEntry) (b2 : Nat), Heap.le h h' ∧ (∃ cs, v = .agg cs.toArray ∧ rep h' r.1 cs) ∧ Ents h' b3.toList b2 r.2 ∧ Mem (Fr.put F bm_known (some (.map b3 b2))) h' [] [] [] w') := by
 induction n using Nat.strongRecOn with
 | _ n ih =>
  intro F h w b_s_ b_known b_find r_ cs_r_ hx_r_ s_ hb_s_ known bm_known es_known cl_known hc_known hX_known hE_known hc_find hm r H
  obtain _ | n := n
  ·
   rw [pit_Best_1] at H; cases H
  obtain ⟨_, _, rfl, rfl, ⟨_, _, rfl, rfl, ⟨_, _, rfl, rfl, ⟨_, _, rfl, rfl, ⟨_, _, rfl, rfl, ⟨_, _, rfl, rfl, ⟨_, _, rfl, rfl, ⟨_, _, rfl, rfl, ⟨_, _, rfl, rfl, ⟨_, _, rfl, rfl, ⟨_, _, rfl, rfl, ⟨_, _, rfl, rfl, ⟨_, _, rfl, rfl, ⟨_, _, rfl, rfl, rfl⟩⟩⟩⟩⟩⟩⟩⟩⟩⟩⟩⟩⟩⟩ := hx_r_
  obtain ⟨_, hx_s_, hc_s_⟩ := id hb_s_
  obtain ⟨_, _, rfl, ⟨q, s, rfl, an⟩, ⟨_, _, rfl, rfl, ⟨u, z, rfl, ao⟩⟩⟩ := hx_s_
  refine enter' (e := [(b_s_, 0), (b_known, 0), (b_find, 0)]) 92 [.agg (K75c15 r_), .c (.ptr 0 0), .c (.ptr 1 0), .c (.ptr 2 0)] Try.func75 rfl rfl rfl rfl fun t hk => ?_
  replace hm := hm.addPlc (o := 0) (cs := [.slice q s_.buses.length s, .int .i64 s_.days, .slice u s_.pits.length z]) (fun j c hj => by rw [Nat.zero_add]; exact hc_s_ j _ (map_get hj)) rfl (by kernel_rfl) (by kernel_rfl)
  replace hm := hm.addPlc (o := 0) (cs := [.map (some bm_known)]) (fun j c hj => by rw [Nat.zero_add]; exact hc_known j _ (map_get hj)) rfl (by kernel_rfl) (by kernel_rfl)
  replace hm := hm.addPlc (o := 0) (cs := [.func (.func 75) #[] #[.pointer (some ⟨b_s_, 0, none⟩), .pointer (some ⟨b_known, 0, none⟩), .pointer (some ⟨b_find, 0, none⟩)]]) (fun j c hj => by rw [Nat.zero_add]; exact hc_find j _ (map_get hj)) rfl (by kernel_rfl) (by kernel_rfl)
  rw [← Fr.put_self hX_known] at hm
  replace hm : Mem (Fr.put F bm_known (some (.map es_known cl_known))) h [(b_s_, 0), (b_known, 0), (b_find, 0)] [⟨[.slice q s_.buses.length s, .int .i64 s_.days, .slice u s_.pits.length z], none⟩, ⟨[.map (some bm_known)], none⟩, ⟨[.func (.func 75) #[] #[.pointer (some ⟨b_s_, 0, none⟩), .pointer (some ⟨b_known, 0, none⟩), .pointer (some ⟨b_find, 0, none⟩)]], none⟩] [] w := hm
  rw [pit_Best_1] at H
  refine wp_seq (wp_region_from (wl fun K hK => ?_))
  refine wb (.agg (K75c15 r_)) hk hm fun a jf j3 (e9 : Kn 92 [(b_s_, 0), (b_known, 0), (b_find, 0), (a, 0)] [(tP 4 3 0), (tA 0 (K75c15 r_)), (tP 1 0 0), (tP 2 1 0), (tP 3 2 0)] jf) (hu : Mem (Fr.put F bm_known (some (.map es_known cl_known))) h [(b_s_, 0), (b_known, 0), (b_find, 0), (a, 0)] [⟨(K75c7 q s_ s u z), none⟩, ⟨[.map (some bm_known)], none⟩, ⟨(K75c8 b_s_ b_known b_find), none⟩, ⟨(K75c15 r_), some 127⟩] [] j3) => hK _ _ ?_
  refine wl fun K hK => ?_
  refine wa [.slice none 0 0, .int .i64 0] e9 hu fun b eg jj (fh : Kn 92 [(b_s_, 0), (b_known, 0), (b_find, 0), (a, 0), (b, 0)] [(tP 5 4 0), (tP 4 3 0), (tA 0 (K75c15 r_)), (tP 1 0 0), (tP 2 1 0), (tP 3 2 0)] eg) (bv : Mem (Fr.put F bm_known (some (.map es_known cl_known))) h [(b_s_, 0), (b_known, 0), (b_find, 0), (a, 0), (b, 0)] [⟨(K75c7 q s_ s u z), none⟩, ⟨[.map (some bm_known)], none⟩, ⟨(K75c8 b_s_ b_known b_find), none⟩, ⟨(K75c15 r_), some 127⟩, ⟨[.slice none 0 0, .int .i64 0], some 129⟩] [] jj) => hK _ _ ?_
  have fm : Kn 92 [(b_s_, 0), (b_known, 0), (b_find, 0), (a, 0), (b, 0)] K75m20 eg := fh.kp
  refine wf (wp_scope_straight (wp_seq (wp_seq (wp_region_from (Rk 0 6 ((tB 19 (r_.bus == ((s_.buses.length : Nat) : Int))) :: K75m20) fm bv fun kj c5 => ?_)))))
  refine wf (wC ((r_.bus == ((s_.buses.length : Nat) : Int))) c5 (fun cw => ?_) (fun cw => ?_))
  ·
   rw [cw, cond_true] at H
   refine wp_seq (wp_region_from (Rk 0 1 [(tA 20 [.slice none 0 0, .int .i64 0]), (tP 5 4 0)] c5 bv fun i1 fw => ?_))
   refine wl fun K hK => ?_
   refine wst 4 0 (.agg [.slice none 0 0, .int .i64 0]) [.slice none 0 0, .int .i64 0] fw bv fun jo f3 (d1 : Mem (Fr.put F bm_known (some (.map es_known cl_known))) h [(b_s_, 0), (b_known, 0), (b_find, 0), (a, 0), (b, 0)] [⟨(K75c7 q s_ s u z), none⟩, ⟨[.map (some bm_known)], none⟩, ⟨(K75c8 b_s_ b_known b_find), none⟩, ⟨(K75c15 r_), some 127⟩, ⟨[.slice none 0 0, .int .i64 0], some 129⟩] [] jo) => hK _ _ ?_
   have f8 : Kn 92 [(b_s_, 0), (b_known, 0), (b_find, 0), (a, 0), (b, 0)] [(tP 5 4 0)] i1 := f3.kp
   refine wf (wp_ret ?_)
   obtain rfl := Option.some.inj H
   exact retM_of (.one (.agg [.slice none 0 0, .int .i64 0])) f8 d1 (by kernel_rfl) ⟨h, es_known, cl_known, (Heap.le_refl _), ⟨_, rfl, ((rep_pair (rep_slice RepS.nil) rep_int) : rep h ((Done.mk ([] : List Int) 0) : Done) _)⟩, hE_known, ((d1.cutRw 0).cutPl 0 (by kernel_rfl))⟩
  ·
   rw [cw, cond_false] at H
   refine wp_skip (wp_seq (wp_seq (wp_region_from (Rk 0 2 ((tA 23 (K75c15 r_)) :: (22, .one (.c (.map (some bm_known)))) :: K75m20) c5 bv fun ku gc => ?_))))
   obtain ⟨x24, ex24, H⟩ := bnd H
   refine wl fun K hK => ?_
   refine wp_lookup (KT := 127) (E := 129) (k := (r_ : Rest)) ((Done.mk ([] : List Int) 0) : Done) (.agg (K75c15 r_)) gc rfl rfl (by decide) (by rfl) (by rfl) (by kernel_rfl) Rest.KL (bv.ext (Fr.put_X _ _ _)) hE_known rfl (by kernel_rfl) ⟨_, rfl, ((rep_pair (rep_slice RepS.nil) rep_int) : rep h ((Done.mk ([] : List Int) 0) : Done) _)⟩ fun lc eb => ?_
   rw [Option.some.inj ex24] at eb ⊢
   obtain ⟨_, rfl, ⟨_, _, rfl, ⟨aa, ab, rfl, be⟩, rfl⟩⟩ := eb
   refine ⟨.tup [.agg (K75c3 aa x24 ab), .c (.bool x24.2)], rfl, fun i8 (gs : Kn 92 [(b_s_, 0), (b_known, 0), (b_find, 0), (a, 0), (b, 0)] ((24, .tup [.agg (K75c3 aa x24 ab), .c (.bool x24.2)]) :: (tA 23 (K75c15 r_)) :: (22, .one (.c (.map (some bm_known)))) :: K75m20) i8) => hK _ _ ?_⟩
   refine Rk 3 3 ((tB 26 x24.2) :: (tA 25 (K75c3 aa x24 ab)) :: K75m20) gs bv fun k1 g0 => ?_
   refine wl fun K hK => ?_
   refine wa [.slice none 0 0, .int .i64 0] g0 bv fun d jc jy (g8 : Kn 92 [(b_s_, 0), (b_known, 0), (b_find, 0), (a, 0), (b, 0), (d, 0)] ((tP 6 5 0) :: (tB 26 x24.2) :: (tA 25 (K75c3 aa x24 ab)) :: K75m20) jc) (h1 : Mem (Fr.put F bm_known (some (.map es_known cl_known))) h [(b_s_, 0), (b_known, 0), (b_find, 0), (a, 0), (b, 0), (d, 0)] [⟨(K75c7 q s_ s u z), none⟩, ⟨[.map (some bm_known)], none⟩, ⟨(K75c8 b_s_ b_known b_find), none⟩, ⟨(K75c15 r_), some 127⟩, ⟨[.slice none 0 0, .int .i64 0], some 129⟩, ⟨[.slice none 0 0, .int .i64 0], some 129⟩] [] jy) => hK _ _ ?_
   refine wl fun K hK => ?_
   refine wst 5 0 (.agg (K75c3 aa x24 ab)) (K75c3 aa x24 ab) g8 h1 fun er g9 (bz : Mem (Fr.put F bm_known (some (.map es_known cl_known))) h [(b_s_, 0), (b_known, 0), (b_find, 0), (a, 0), (b, 0), (d, 0)] [⟨(K75c7 q s_ s u z), none⟩, ⟨[.map (some bm_known)], none⟩, ⟨(K75c8 b_s_ b_known b_find), none⟩, ⟨(K75c15 r_), some 127⟩, ⟨[.slice none 0 0, .int .i64 0], some 129⟩, ⟨(K75c3 aa x24 ab), some 129⟩] [] er) => hK _ _ ?_
   refine Rk 8 1 ((tB 7 x24.2) :: (tP 6 5 0) :: K75m20) g9 bz fun k4 ha => ?_
   refine wf (wp_seq (wp_region_from (Rk 0 1 ((tB 27 x24.2) :: (tP 6 5 0) :: K75m20) ha bz fun k5 c8 => ?_)))
   refine wf (wC (x24.2) c8 (fun cz => ?_) (fun cz => ?_))
   ·
    rw [cz, cond_true] at H
    refine wp_seq (wp_region_from (Rk 0 1 [(tA 28 (K75c3 aa x24 ab)), (tP 5 4 0)] c8 bz fun jd hb => ?_))
    refine wl fun K hK => ?_
    refine wst 4 0 (.agg (K75c3 aa x24 ab)) (K75c3 aa x24 ab) hb bz fun jz hc (d7 : Mem (Fr.put F bm_known (some (.map es_known cl_known))) h [(b_s_, 0), (b_known, 0), (b_find, 0), (a, 0), (b, 0), (d, 0)] [⟨(K75c7 q s_ s u z), none⟩, ⟨[.map (some bm_known)], none⟩, ⟨(K75c8 b_s_ b_known b_find), none⟩, ⟨(K75c15 r_), some 127⟩, ⟨(K75c3 aa x24 ab), some 129⟩, ⟨(K75c3 aa x24 ab), some 129⟩] [] jz) => hK _ _ ?_
    have hd : Kn 92 [(b_s_, 0), (b_known, 0), (b_find, 0), (a, 0), (b, 0), (d, 0)] [(tP 5 4 0)] jd := hc.kp
    refine wf (wp_ret ?_)
    obtain rfl := Option.some.inj H
    exact retM_of (.one (.agg (K75c3 aa x24 ab))) hd d7 (by kernel_rfl) ⟨h, es_known, cl_known, (Heap.le_refl _), ⟨_, rfl, ((rep_pair (rep_slice be) rep_int) : rep h (x24.1 : Done) _)⟩, hE_known, ((d7.cutRw 0).cutPl 0 (by kernel_rfl))⟩
   ·
    rw [cz, cond_false] at H
    refine wp_skip (wp_seq (wp_region_from (Rk 0 4 ((tI 32 r_.bus) :: (tS 30 q s_.buses.length s) :: K75m20) c8 bz fun k6 he => ?_)))
    obtain ⟨x33, ex33, H⟩ := bnd H
    obtain ⟨h7, ib, iu⟩ := idx_some ex33
    obtain ⟨f, g, j6, e3, io, e6⟩ := an.get (by decide) iu
    obtain ⟨_, _, rfl, rfl, ⟨_, _, rfl, rfl, rfl⟩⟩ := io
    have d8 : Mem (Fr.put F bm_known (some (.map es_known cl_known))) h [(b_s_, 0), (b_known, 0), (b_find, 0), (a, 0), (b, 0), (d, 0), (f, g + (r_.bus : Int).toNat * 3)] [⟨(K75c7 q s_ s u z), none⟩, ⟨[.map (some bm_known)], none⟩, ⟨(K75c8 b_s_ b_known b_find), none⟩, ⟨(K75c15 r_), some 127⟩, ⟨[.slice none 0 0, .int .i64 0], some 129⟩, ⟨(K75c3 aa x24 ab), some 129⟩, ⟨(K75c4 x33), none⟩] [] er := bz.addPlc (cs := (K75c4 x33)) (fun j c hj => e6 j _ (map_get hj)) rfl (by kernel_rfl) (by kernel_rfl)
    refine R_index 4 (r_.bus) rfl rfl (rfl) rfl (by decide) he (by rfl) (by rfl) (by rfl) e3 (by rfl) h7 ib (by kernel_rfl) fun je (hf : Kn 92 [(b_s_, 0), (b_known, 0), (b_find, 0), (a, 0), (b, 0), (d, 0), (f, g + (r_.bus : Int).toNat * 3)] ((tP 33 6 0) :: (tI 32 r_.bus) :: (tS 30 q s_.buses.length s) :: K75m20) je) => ?_
    refine Rk 5 1 ((tA 34 (K75c4 x33)) :: K75m20) hf d8 fun k7 hg => ?_
    refine wl fun K hK => ?_
    refine wa [.int .i64 0, .int .i64 0, .int .i64 0] hg d8 fun l en j0 (hh : Kn 92 [(b_s_, 0), (b_known, 0), (b_find, 0), (a, 0), (b, 0), (d, 0), (f, g + (r_.bus : Int).toNat * 3), (l, 0)] ((tP 8 7 0) :: (tA 34 (K75c4 x33)) :: K75m20) en) (h2 : Mem (Fr.put F bm_known (some (.map es_known cl_known))) h [(b_s_, 0), (b_known, 0), (b_find, 0), (a, 0), (b, 0), (d, 0), (f, g + (r_.bus : Int).toNat * 3), (l, 0)] [⟨(K75c7 q s_ s u z), none⟩, ⟨[.map (some bm_known)], none⟩, ⟨(K75c8 b_s_ b_known b_find), none⟩, ⟨(K75c15 r_), some 127⟩, ⟨[.slice none 0 0, .int .i64 0], some 129⟩, ⟨(K75c3 aa x24 ab), some 129⟩, ⟨(K75c4 x33), none⟩, ⟨[.int .i64 0, .int .i64 0, .int .i64 0], some 120⟩] [] j0) => hK _ _ ?_
    refine wl fun K hK => ?_
    refine wst 7 0 (.agg (K75c4 x33)) (K75c4 x33) hh h2 fun j1 hi (h3 : Mem (Fr.put F bm_known (some (.map es_known cl_known))) h [(b_s_, 0), (b_known, 0), (b_find, 0), (a, 0), (b, 0), (d, 0), (f, g + (r_.bus : Int).toNat * 3), (l, 0)] [⟨(K75c7 q s_ s u z), none⟩, ⟨[.map (some bm_known)], none⟩, ⟨(K75c8 b_s_ b_known b_find), none⟩, ⟨(K75c15 r_), some 127⟩, ⟨[.slice none 0 0, .int .i64 0], some 129⟩, ⟨(K75c3 aa x24 ab), some 129⟩, ⟨(K75c4 x33), none⟩, ⟨(K75c4 x33), some 120⟩] [] j1) => hK _ _ ?_
    have hl : Kn 92 [(b_s_, 0), (b_known, 0), (b_find, 0), (a, 0), (b, 0), (d, 0), (f, g + (r_.bus : Int).toNat * 3), (l, 0)] ((tP 8 7 0) :: K75m20) en := hi.kp
    refine wf (wp_seq (wp_region_from (wl fun K hK => ?_)))
    refine wa [.slice none 0 0, .int .i64 0] hl h3 fun m jg j2 (hn : Kn 92 (K75e9 b_s_ b_known b_find a b d f g r_ l m) ((tP 9 8 0) :: (tP 8 7 0) :: K75m20) jg) (d9 : Mem (Fr.put F bm_known (some (.map es_known cl_known))) h (K75e9 b_s_ b_known b_find a b d f g r_ l m) [⟨(K75c7 q s_ s u z), none⟩, ⟨[.map (some bm_known)], none⟩, ⟨(K75c8 b_s_ b_known b_find), none⟩, ⟨(K75c15 r_), some 127⟩, ⟨[.slice none 0 0, .int .i64 0], some 129⟩, ⟨(K75c3 aa x24 ab), some 129⟩, ⟨(K75c4 x33), none⟩, ⟨(K75c4 x33), some 120⟩, ⟨[.slice none 0 0, .int .i64 0], some 129⟩] [] j2) => hK _ _ ?_
    refine wf (wp_seq (wp_label (wp_seq (wp_seq (wp_region_from (Rk 0 1 ((tI 10 (-1)) :: (tP 9 8 0) :: (tP 8 7 0) :: K75m20) hn d9 fun k8 ho => ?_))))))
    refine wf ?_
    obtain ⟨ag, dp, H⟩ := bnd H
    refine wp_mid' (fun a' w' => ∃ (ap : Option Addr) (aq : Nat) (cr : Array MapEntry) (co : Nat) (dj : Array Value) (bk : Heap), a' = ⟨dj, []⟩ ∧ Kn 92 (K75e9 b_s_ b_known b_find a b d f g r_ l m) [(tP 9 8 0), (tP 5 4 0), (tP 4 3 0), (tP 2 1 0)] dj ∧ Mem (Fr.put F bm_known (some (.map cr co))) bk (K75e9 b_s_ b_known b_find a b d f g r_ l m) [⟨(K75c7 q s_ s u z), none⟩, ⟨[.map (some bm_known)], none⟩, ⟨(K75c8 b_s_ b_known b_find), none⟩, ⟨(K75c15 r_), some 127⟩, ⟨[.slice none 0 0, .int .i64 0], some 129⟩, ⟨(K75c3 aa x24 ab), some 129⟩, ⟨(K75c4 x33), none⟩, ⟨(K75c4 x33), some 120⟩, ⟨(K75c2 ap ag aq), some 129⟩] [] w' ∧ Heap.le h bk ∧ RepS bk ap aq ag.1 ∧ Ents bk cr.toList co ag.2.2) ?_ ?_
    ·
     refine wp_block ?_
     refine wp_loop_n (fun ec a' w' => ∃ (x_v10 : Int) (x_v11 : List Int) (x_v12 : Int) (x_v13 : List (Rest × Done)) (ae : Option Addr) (af : Nat) (br : Array MapEntry) (bq : Nat) (dk : Array Value) (bl : Heap), a' = ⟨dk, []⟩ ∧ Kn 92 (K75e9 b_s_ b_known b_find a b d f g r_ l m) (K75m19 x_v10) dk ∧ Mem (Fr.put F bm_known (some (.map br bq))) bl (K75e9 b_s_ b_known b_find a b d f g r_ l m) [⟨(K75c7 q s_ s u z), none⟩, ⟨[.map (some bm_known)], none⟩, ⟨(K75c8 b_s_ b_known b_find), none⟩, ⟨(K75c15 r_), some 127⟩, ⟨[.slice none 0 0, .int .i64 0], some 129⟩, ⟨(K75c3 aa x24 ab), some 129⟩, ⟨(K75c4 x33), none⟩, ⟨(K75c4 x33), some 120⟩, ⟨(K75c1 ae x_v11 af x_v12), some 129⟩] [] w' ∧ Heap.le h bl ∧ RepS bl ae af x_v11 ∧ Ents bl br.toList bq x_v13 ∧ ec ≤ n ∧ pit_Best_1_l1 ec r_ s_ x33 x_v10 x_v11 x_v12 x_v13 = some ag) n ?_ ?_
     ·
      exact Exists.intro (-1) ⟨([] : List Int), 0, known, none, 0, es_known, cl_known, _, _, rfl, ho.kp, d9, (Heap.le_refl _), RepS.nil, hE_known, Nat.le_refl _, dp⟩
     ·
      rintro bf _ lf ⟨x_v10, x_v11, x_v12, x_v13, ae, af, br, bq, dk, bl, rfl, fa, cj, ar, au, cg, j7, ad⟩
      clear dp
      obtain _ | bf := bf
      ·
       rw [pit_Best_1_l1] at ad; cases ad
      rw [pit_Best_1_l1] at ad
      replace an := an.mono ar
      replace ao := ao.mono ar
      replace hb_s_ := hb_s_.mono ar
      replace hc_known := hc_known.mono ar
      replace hc_find := hc_find.mono ar
      replace be := be.mono ar
      refine wp_seq (wp_seq (wp_region_from (Rk 0 4 ((tB 38 (decide (x_v10 < s_.days))) :: (K75m19 x_v10)) fa cj fun ka c2 => ?_)))
      refine wf (wC (decide (x_v10 < s_.days)) c2 (fun ct => ?_) (fun ct => ?_))
      ·
       rw [ct, cond_true] at ad
       refine wp_skip (wp_seq (wp_block (wp_seq (wp_region_from (Rk 0 6 ((tA 46 (K75c16 r_)) :: (K75m19 x_v10)) c2 cj fun kb fb => ?_)))))
       refine wl fun K hK => ?_
       refine wa K75c13 fb cj fun p ef jh (fc : Kn 92 (K75e10 b_s_ b_known b_find a b d f g r_ l m p) ((tP 11 9 0) :: (tA 46 (K75c16 r_)) :: (K75m19 x_v10)) ef) (hv : Mem (Fr.put F bm_known (some (.map br bq))) bl (K75e10 b_s_ b_known b_find a b d f g r_ l m p) [⟨(K75c7 q s_ s u z), none⟩, ⟨[.map (some bm_known)], none⟩, ⟨(K75c8 b_s_ b_known b_find), none⟩, ⟨(K75c15 r_), some 127⟩, ⟨[.slice none 0 0, .int .i64 0], some 129⟩, ⟨(K75c3 aa x24 ab), some 129⟩, ⟨(K75c4 x33), none⟩, ⟨(K75c4 x33), some 120⟩, ⟨(K75c1 ae x_v11 af x_v12), some 129⟩, ⟨K75c13, some 127⟩] [] jh) => hK _ _ ?_
       refine wl fun K hK => ?_
       refine wst 9 0 (.agg (K75c16 r_)) (K75c16 r_) fc hv fun ji fd (bd : Mem (Fr.put F bm_known (some (.map br bq))) bl (K75e10 b_s_ b_known b_find a b d f g r_ l m p) [⟨(K75c7 q s_ s u z), none⟩, ⟨[.map (some bm_known)], none⟩, ⟨(K75c8 b_s_ b_known b_find), none⟩, ⟨(K75c15 r_), some 127⟩, ⟨[.slice none 0 0, .int .i64 0], some 129⟩, ⟨(K75c3 aa x24 ab), some 129⟩, ⟨(K75c4 x33), none⟩, ⟨(K75c4 x33), some 120⟩, ⟨(K75c1 ae x_v11 af x_v12), some 129⟩, ⟨(K75c16 r_), some 127⟩] [] ji) => hK _ _ ?_
       have fe : Kn 92 (K75e10 b_s_ b_known b_find a b d f g r_ l m p) ((tP 11 9 0) :: (K75m19 x_v10)) ef := fd.kp
       refine wf (wp_seq (wp_seq (wp_region_from (Rk 0 2 ((tB 48 (x_v10 != (-1))) :: (tP 11 9 0) :: (K75m19 x_v10)) fe bd fun kc c3 => ?_))))
       refine wf (wC ((x_v10 != (-1))) c3 (fun cu => ?_) (fun cu => ?_))
       ·
        rw [cu, cond_true] at ad
        refine wp_seq (wp_region_G (by kernel_rfl) ?_)
        replace bd := bd.drew
        refine wpG_of_D [] (K75e10 b_s_ b_known b_find a b d f g r_ l m p) [⟨(K75c7 q s_ s u z), none⟩, ⟨[.map (some bm_known)], none⟩, ⟨(K75c8 b_s_ b_known b_find), none⟩, ⟨(K75c15 r_), some 127⟩, ⟨[.slice none 0 0, .int .i64 0], some 129⟩, ⟨(K75c3 aa x24 ab), some 129⟩, ⟨(K75c4 x33), none⟩, ⟨(K75c4 x33), some 120⟩, ⟨(K75c1 ae x_v11 af x_v12), some 129⟩, ⟨(K75c16 r_), some 127⟩] ?_
        refine Dr [0, 1] [1, 0] ((tP 50 9 1) :: (tI 49 x_v10) :: (tP 11 9 0) :: (K75m19 x_v10)) c3 bd fun kd du => ?_
        obtain ⟨x51, ex51, ad⟩ := bnd ad
        obtain ⟨h4, h8⟩ := rng_some ex51
        refine D_one 2 (.one (.c (.ptr 9 (1 + (x_v10 : Int).toNat * 1)))) (fun _ _ _ _ _ h => h) rfl (by kernel_rfl) (by kernel_rfl) (rfl) rfl bd.plOk (fun _ h => h) (fun w => run_indexA (E := 3) du rfl (by kernel_rfl) (by kernel_rfl) (by rfl) (by rfl) h4 h8) (du.put (by decide) _) fun iv (dv : Kn 92 (K75e10 b_s_ b_known b_find a b d f g r_ l m p) ((tP 51 9 (1 + (x_v10 : Int).toNat * 1)) :: (tP 50 9 1) :: (tI 49 x_v10) :: (tP 11 9 0) :: (K75m19 x_v10)) iv) => ?_
        obtain ⟨x52, ex52, ad⟩ := bnd ad
        obtain ⟨_, _, ip⟩ := idx_some ex52
        refine D_oneP 3 (.one (.c (.int .i64 x52))) (fun _ _ _ _ _ h => h) rfl (by kernel_rfl) (by kernel_rfl) (by kernel_rfl) (rfl) rfl bd.plOk (fun w hw => run_loadAt1 dv hw rfl (by rfl) rfl (by kernel_rfl) (arr_get (fun (y : Int) => ([.int .i64 y] : List SC)) 1 (fun _ => rfl) [.int .i64 (IntKind.i64.wrap (r_.bus + 1))] [] r_.left.toL _ _ ip rfl rfl)) (dv.put (by decide) _) fun iw (ff : Kn 92 (K75e10 b_s_ b_known b_find a b d f g r_ l m p) ((tI 52 x52) :: (tP 51 9 (1 + (x_v10 : Int).toNat * 1)) :: (tP 50 9 1) :: (tI 49 x_v10) :: (tP 11 9 0) :: (K75m19 x_v10)) iw) => ?_
        refine Dr [4, 5, 6, 7] (dn 7) ((tP 56 9 1) :: (tI 55 (IntKind.i64.wrap (x52 - x33.work))) :: (tI 49 x_v10) :: (tP 11 9 0) :: (K75m19 x_v10)) ff bd fun ke dw => ?_
        obtain ⟨x57, ex57, ad⟩ := bnd ad
        obtain ⟨h5, h9⟩ := rng_some ex57
        refine D_one 8 (.one (.c (.ptr 9 (1 + (x_v10 : Int).toNat * 1)))) (fun _ _ _ _ _ h => h) rfl (by kernel_rfl) (by kernel_rfl) (rfl) rfl bd.plOk (fun _ h => h) (fun w => run_indexA (E := 3) dw rfl (by kernel_rfl) (by kernel_rfl) (by rfl) (by rfl) h5 h9) (dw.put (by decide) _) fun eh (fg : Kn 92 (K75e10 b_s_ b_known b_find a b d f g r_ l m p) ((tP 57 9 (1 + (x_v10 : Int).toNat * 1)) :: (tP 56 9 1) :: (tI 55 (IntKind.i64.wrap (x52 - x33.work))) :: (tI 49 x_v10) :: (tP 11 9 0) :: (K75m19 x_v10)) eh) => ?_
        obtain ⟨ac, es, ad⟩ := bnd ad
        obtain ⟨j8, j9, iq⟩ := Hours.setI_some es
        refine D_sync 9 rfl (by kernel_rfl) (by decide) (rfl) (by kernel_rfl) fun K hK => ?_
        refine wp_store 9 (1 + (x_v10 : Int).toNat * 1) (.c (.int .i64 (IntKind.i64.wrap (x52 - x33.work)))) (K75c14 r_ ac) fg bd rfl rfl (by rfl) (by rfl) (by rfl) (by kernel_rfl) (by refine decide_eq_true ?_; show (1 + (x_v10 : Int).toNat * 1) + 1 ≤ 15; omega) (arr_set (fun (y : Int) => ([.int .i64 y] : List SC)) 1 (fun _ => rfl) [.int .i64 (IntKind.i64.wrap (r_.bus + 1))] [] r_.left.toL ac.toL (x_v10 : Int).toNat (IntKind.i64.wrap (x52 - x33.work)) iq (show (x_v10 : Int).toNat < 14 by omega) rfl rfl rfl) fun jk fi (bu : Mem (Fr.put F bm_known (some (.map br bq))) bl (K75e10 b_s_ b_known b_find a b d f g r_ l m p) [⟨(K75c7 q s_ s u z), none⟩, ⟨[.map (some bm_known)], none⟩, ⟨(K75c8 b_s_ b_known b_find), none⟩, ⟨(K75c15 r_), some 127⟩, ⟨[.slice none 0 0, .int .i64 0], some 129⟩, ⟨(K75c3 aa x24 ab), some 129⟩, ⟨(K75c4 x33), none⟩, ⟨(K75c4 x33), some 120⟩, ⟨(K75c1 ae x_v11 af x_v12), some 129⟩, ⟨(K75c14 r_ ac), some 127⟩] [] jk) => hK _ _ ?_
        have fj : Kn 92 (K75e10 b_s_ b_known b_find a b d f g r_ l m p) ((tP 11 9 0) :: (K75m19 x_v10)) eh := fi.kp
        refine wpG_end (by kernel_rfl) (wp_seq (wp_region_from (Rk 0 2 ((tP 59 9 1) :: (tI 58 x_v10) :: (tP 11 9 0) :: (K75m19 x_v10)) fj bu fun kf dx => ?_)))
        obtain ⟨x60, ex60, ad⟩ := bnd ad
        obtain ⟨h6, ia⟩ := rng_some ex60
        refine R_one 2 (.one (.c (.ptr 9 (1 + (x_v10 : Int).toNat * 1)))) rfl (rfl) rfl (run_indexA (E := 3) dx rfl (by kernel_rfl) (by kernel_rfl) (by rfl) (by rfl) h6 ia) (dx.put (by decide) _) fun ix (dy : Kn 92 (K75e10 b_s_ b_known b_find a b d f g r_ l m p) ((tP 60 9 (1 + (x_v10 : Int).toNat * 1)) :: (tP 59 9 1) :: (tI 58 x_v10) :: (tP 11 9 0) :: (K75m19 x_v10)) ix) => ?_
        obtain ⟨x61, ex61, ad⟩ := bnd ad
        obtain ⟨_, _, ir⟩ := idx_some ex61
        refine R_one 3 (.one (.c (.int .i64 x61))) rfl (rfl) rfl (run_loadAt1 dy bu.plOk rfl (by rfl) rfl (by kernel_rfl) (arr_get (fun (y : Int) => ([.int .i64 y] : List SC)) 1 (fun _ => rfl) [.int .i64 (IntKind.i64.wrap (r_.bus + 1))] [] ac.toL _ _ ir rfl rfl)) (dy.put (by decide) _) fun iy (fk : Kn 92 (K75e10 b_s_ b_known b_find a b d f g r_ l m p) ((tI 61 x61) :: (tP 60 9 (1 + (x_v10 : Int).toNat * 1)) :: (tP 59 9 1) :: (tI 58 x_v10) :: (tP 11 9 0) :: (K75m19 x_v10)) iy) => ?_
        refine Rk 4 1 ((tB 62 (decide (x61 < 0))) :: (tP 11 9 0) :: (K75m19 x_v10)) fk bu fun kg c4 => ?_
        refine wf (wC (decide (x61 < 0)) c4 (fun cv => ?_) (fun cv => ?_))
        ·
         rw [cv, cond_true] at ad
         refine wp_exit (wp_region_from (Rk 0 3 ((tI 10 (IntKind.i64.wrap (x_v10 + 1))) :: (tP 9 8 0) :: (tP 8 7 0) :: K75m20) c4 bu fun kh fl => ?_))
         refine wf ?_
         exact Exists.intro bf ⟨Nat.lt_succ_self _, Exists.intro (IntKind.i64.wrap (x_v10 + 1)) ⟨x_v11, x_v12, x_v13, ae, af, br, bq, _, _, rfl, ((fl.keep [10, 9, 8, 5, 4, 1, 2, 3] (by rfl)).cut 9 (by kernel_rfl)), (bu.cutPl 9 (by kernel_rfl)), ar, au, cg, (by omega), ad⟩⟩
        ·
         rw [cv, cond_false] at ad
         refine wp_skip (wp_seq (wp_region_from (Rk 0 2 ((tA 64 (K75c14 r_ ac)) :: (K75m22 b_s_ b_known b_find x_v10)) c4 bu fun ki fn => ?_)))
         obtain ⟨x65, ex65, ad⟩ := bnd ad
         obtain ⟨j4, ez, hp, ig⟩ := bu.lend1 bm_known (Fr.put_X _ _ _) [] [] (by kernel_rfl) (by kernel_rfl) (by kernel_rfl) (by kernel_rfl)
         refine wl fun K hK => ?_
         refine wp_callVM (.func (.func 75) #[] #[.pointer (some ⟨b_s_, 0, none⟩), .pointer (some ⟨b_known, 0, none⟩), .pointer (some ⟨b_find, 0, none⟩)]) [.agg (K75c14 r_ ac)] _ fn rfl rfl (by decide) (by rfl) (by rfl) rfl ⟨75, _, _, rfl, fun _ _ => by kernel_rfl, ih bf (by omega) _ _ _ _ _ _ (Rest.mk (IntKind.i64.wrap (r_.bus + 1)) ac) _ ((rep_pair rep_int (rep_pair rep_int (rep_pair rep_int (rep_pair rep_int (rep_pair rep_int (rep_pair rep_int (rep_pair rep_int (rep_pair rep_int (rep_pair rep_int (rep_pair rep_int (rep_pair rep_int (rep_pair rep_int (rep_pair rep_int (rep_pair rep_int rep_int)))))))))))))) : rep bl (Rest.mk (IntKind.i64.wrap (r_.bus + 1)) ac) _) s_ hb_s_ x_v13 _ _ _ hc_known (ez _ _ (Fr.put_X _ _ _)) cg hc_find hp _ ex65⟩ fun k9 jl ex => ?_
         obtain ⟨b4, bi, bg, bm, ⟨_, rfl, ⟨_, _, rfl, ⟨aj, al, rfl, ca⟩, rfl⟩⟩, bs, hx⟩ := ex
         have ck := ig _ _ _ _ [] bm rfl (Nat.le_refl _) (by kernel_rfl) hx
         rw [Fr.put_put] at ck
         replace an := an.mono bm
         replace ao := ao.mono bm
         replace ck : Mem (Fr.put F bm_known (some (.map bi bg))) b4 [(b_s_, 0), (b_known, 0), (b_find, 0), (a, 0), (b, 0), (d, 0), (f, g + (r_.bus : Int).toNat * 3), (l, 0), (m, 0), (p, 0)] [⟨[.slice q s_.buses.length s, .int .i64 s_.days, .slice u s_.pits.length z], none⟩, ⟨[.map (some bm_known)], none⟩, ⟨[.func (.func 75) #[] #[.pointer (some ⟨b_s_, 0, none⟩), .pointer (some ⟨b_known, 0, none⟩), .pointer (some ⟨b_find, 0, none⟩)]], none⟩, ⟨[.int .i64 r_.bus, .int .i64 r_.left.a0, .int .i64 r_.left.a1, .int .i64 r_.left.a2, .int .i64 r_.left.a3, .int .i64 r_.left.a4, .int .i64 r_.left.a5, .int .i64 r_.left.a6, .int .i64 r_.left.a7, .int .i64 r_.left.a8, .int .i64 r_.left.a9, .int .i64 r_.left.a10, .int .i64 r_.left.a11, .int .i64 r_.left.a12, .int .i64 r_.left.a13], some 127⟩, ⟨[.slice none 0 0, .int .i64 0], some 129⟩, ⟨[.slice aa x24.1.plan.length ab, .int .i64 x24.1.cost], some 129⟩, ⟨[.int .i64 x33.due, .int .i64 x33.work, .int .i64 x33.cost], none⟩, ⟨[.int .i64 x33.due, .int .i64 x33.work, .int .i64 x33.cost], some 120⟩, ⟨[.slice ae x_v11.length af, .int .i64 x_v12], some 129⟩, ⟨[.int .i64 (IntKind.i64.wrap (r_.bus + 1)), .int .i64 ac.a0, .int .i64 ac.a1, .int .i64 ac.a2, .int .i64 ac.a3, .int .i64 ac.a4, .int .i64 ac.a5, .int .i64 ac.a6, .int .i64 ac.a7, .int .i64 ac.a8, .int .i64 ac.a9, .int .i64 ac.a10, .int .i64 ac.a11, .int .i64 ac.a12, .int .i64 ac.a13], some 127⟩] [] jl := ck
         refine ⟨.one (.agg (K75c5 aj x65 al)), rfl, fun iz (fo : Kn 92 (K75e10 b_s_ b_known b_find a b d f g r_ l m p) ((tA 65 (K75c5 aj x65 al)) :: (tA 64 (K75c14 r_ ac)) :: (K75m22 b_s_ b_known b_find x_v10)) iz) => hK _ _ ?_⟩
         refine wl fun K hK => ?_
         refine wa [.slice none 0 0, .int .i64 0] fo ck fun ah ei jm (fp : Kn 92 (K75e11 b_s_ b_known b_find a b d f g r_ l m p ah) ((tP 12 10 0) :: (tA 65 (K75c5 aj x65 al)) :: (tA 64 (K75c14 r_ ac)) :: (K75m22 b_s_ b_known b_find x_v10)) ei) (hy : Mem (Fr.put F bm_known (some (.map bi bg))) b4 (K75e11 b_s_ b_known b_find a b d f g r_ l m p ah) [⟨(K75c7 q s_ s u z), none⟩, ⟨[.map (some bm_known)], none⟩, ⟨(K75c8 b_s_ b_known b_find), none⟩, ⟨(K75c15 r_), some 127⟩, ⟨[.slice none 0 0, .int .i64 0], some 129⟩, ⟨(K75c3 aa x24 ab), some 129⟩, ⟨(K75c4 x33), none⟩, ⟨(K75c4 x33), some 120⟩, ⟨(K75c1 ae x_v11 af x_v12), some 129⟩, ⟨(K75c14 r_ ac), some 127⟩, ⟨[.slice none 0 0, .int .i64 0], some 129⟩] [] jm) => hK _ _ ?_
         refine wl fun K hK => ?_
         refine wst 10 0 (.agg (K75c5 aj x65 al)) (K75c5 aj x65 al) fp hy fun jn fq (b8 : Mem (Fr.put F bm_known (some (.map bi bg))) b4 (K75e11 b_s_ b_known b_find a b d f g r_ l m p ah) (K75p18 q s_ s u z bm_known b_s_ b_known b_find r_ aa x24 ab x33 ae x_v11 af x_v12 ac aj x65 al) [] jn) => hK _ _ ?_
         have fr : Kn 92 (K75e11 b_s_ b_known b_find a b d f g r_ l m p ah) ((tP 12 10 0) :: (K75m19 x_v10)) ei := fq.kp
         refine wf (wp_seq (wp_region_G (by kernel_rfl) ?_))
         replace b8 := b8.drew
         refine wpG_of_D [] (K75e11 b_s_ b_known b_find a b d f g r_ l m p ah) (K75p18 q s_ s u z bm_known b_s_ b_known b_find r_ aa x24 ab x33 ae x_v11 af x_v12 ac aj x65 al) ?_
         refine Dr [0, 1, 2, 3, 4] (dn 4) ((tI 70 x_v10) :: (tA 69 (K75c4 x33)) :: (tA 68 (K75c7 q s_ s u z)) :: (tI 67 x65.1.cost) :: (tP 12 10 0) :: (K75m19 x_v10)) fr b8 fun kk fs => ?_
         obtain ⟨x71, ex71, ad⟩ := bnd ad
         refine Dl 5 fun K hK => ?_
         refine wc [.agg (K75c7 q s_ s u z), .agg (K75c4 x33), .c (.int .i64 x_v10)] fs b8 (pit_Shop_cost_ok bf b8.has s_ ((rep_pair (rep_slice an) (rep_pair rep_int (rep_slice ao))) : rep b4 s_ _) x33 ((rep_pair rep_int (rep_pair rep_int rep_int)) : rep b4 x33 _) x_v10 ex71) fun la e1 lg ev az bw => ?_
         replace an := an.mono az
         replace ao := ao.mono az
         replace hb_s_ := hb_s_.mono (Heap.le_trans bm az)
         replace hc_known := hc_known.mono (Heap.le_trans bm az)
         replace hc_find := hc_find.mono (Heap.le_trans bm az)
         replace be := be.mono (Heap.le_trans bm az)
         replace au := au.mono (Heap.le_trans bm az)
         replace ca := ca.mono az
         replace bs := bs.mono az
         obtain rfl := ev
         refine ⟨.one (.c (.int .i64 x71)), rfl, fun i0 (ft : Kn 92 (K75e11 b_s_ b_known b_find a b d f g r_ l m p ah) ((tI 71 x71) :: (tI 70 x_v10) :: (tA 69 (K75c4 x33)) :: (tA 68 (K75c7 q s_ s u z)) :: (tI 67 x65.1.cost) :: (tP 12 10 0) :: (K75m19 x_v10)) i0) => hK _ _ bw.plOk ?_⟩
         refine Dr [6, 7] (dn 7) (K75m21 x65 x71 x_v10) ft bw fun kl fu => ?_
         refine wpD_end (by kernel_rfl) (wp_seq ?_)
         obtain ⟨ed, ce, ad⟩ := bnd ad
         refine wp_mid' (fun a' w' => ∃ (dl : Array Value) (bo : Heap), a' = ⟨dl, []⟩ ∧ Kn 92 (K75e11 b_s_ b_known b_find a b d f g r_ l m p ah) [(tI 13 (IntKind.i64.wrap (x65.1.cost + x71))), (tP 12 10 0), (tI 10 x_v10), (tP 9 8 0), (tP 8 7 0), (tP 5 4 0), (tP 4 3 0), (tP 1 0 0), (tP 2 1 0), (tP 3 2 0), (tB 80 ed)] dl ∧ Mem (Fr.put F bm_known (some (.map bi bg))) bo (K75e11 b_s_ b_known b_find a b d f g r_ l m p ah) (K75p18 q s_ s u z bm_known b_s_ b_known b_find r_ aa x24 ab x33 ae x_v11 af x_v12 ac aj x65 al) [] w' ∧ Heap.le e1 bo) ?_ ?_
         ·
          refine wp_region_from (Rk 0 3 ((tB 75 (x_v10 == (-1))) :: (K75m21 x65 x71 x_v10)) fu bw fun ej dz => ?_)
          rcases Bool.eq_false_or_eq_true ((x_v10 == (-1))) with b6 | b6
          ·
           rw [b6, cond_true] at ce
           have fv : Kn 92 (K75e11 b_s_ b_known b_find a b d f g r_ l m p ah) ((tB 75 true) :: (K75m21 x65 x71 x_v10)) ej := (dz.setB 75 true (by rfl) b6).kp
           refine Rk 3 5 ((tB 80 true) :: (K75m21 x65 x71 x_v10)) fv bw fun km fx => ?_
           refine wf ?_
           obtain rfl := Option.some.inj ce
           exact Exists.intro _ ⟨_, rfl, fx.kp, bw, (Heap.le_refl _)⟩
          ·
           rw [b6, cond_false] at ce
           have fy : Kn 92 (K75e11 b_s_ b_known b_find a b d f g r_ l m p ah) ((tB 75 false) :: (K75m21 x65 x71 x_v10)) ej := (dz.setB 75 false (by rfl) b6).kp
           refine Rk 3 5 ((tB 80 (decide ((IntKind.i64.wrap (x65.1.cost + x71)) < x_v12))) :: (K75m21 x65 x71 x_v10)) fy bw fun kn fz => ?_
           refine wf ?_
           obtain rfl := Option.some.inj ce
           exact Exists.intro _ ⟨_, rfl, fz.kp, bw, (Heap.le_refl _)⟩
         ·
          rintro _ lh ⟨dl, bo, rfl, c6, cl, ba⟩
          replace an := an.mono ba
          replace ao := ao.mono ba
          replace hb_s_ := hb_s_.mono ba
          replace hc_known := hc_known.mono ba
          replace hc_find := hc_find.mono ba
          replace be := be.mono ba
          replace au := au.mono ba
          replace ca := ca.mono ba
          replace bs := bs.mono ba
          refine wC (ed) c6 (fun cx => ?_) (fun cx => ?_)
          ·
           rw [cx, cond_true] at ad
           refine wp_region_from (Rk 0 1 ((tI 81 x_v10) :: (K75m21 x65 x71 x_v10)) c6 cl fun ko f0 => ?_)
           refine wl fun K hK => ?_
           refine wS 3 1 [.int .i64 x_v10] f0 cl fun cc i2 jp (f1 : Kn 92 (K75e11 b_s_ b_known b_find a b d f g r_ l m p ah) ((tS 82 cc 1 1) :: (tI 81 x_v10) :: (K75m21 x65 x71 x_v10)) i2) (db : Mem (Fr.put F bm_known (some (.map bi bg))) bo (K75e11 b_s_ b_known b_find a b d f g r_ l m p ah) (K75p18 q s_ s u z bm_known b_s_ b_known b_find r_ aa x24 ab x33 ae x_v11 af x_v12 ac aj x65 al) [⟨cc, 1, 1, 3, 1, ([.int .i64 x_v10] : List Value), 0⟩] jp) => ?_
           have e4 : Cells bo ([x_v10] : List Int) ([.int .i64 x_v10] : List Value) := ⟨_, _, rfl, (rep_int : rep bo (x_v10 : Int) _), rfl⟩
           refine hK _ _ ?_
           refine Rk 2 2 ((tS 84 aj x65.1.plan.length al) :: (tS 82 cc 1 1) :: (tI 13 (IntKind.i64.wrap (x65.1.cost + x71))) :: (K75m19 x_v10)) f1 db fun kq f2 => ?_
           obtain ⟨b0, ch, il, _⟩ := id ca
           obtain ⟨x85, ex85, ad⟩ := bnd ad
           obtain ⟨dh, hq⟩ := app_some ex85
           refine wl fun K hK => ?_
           refine wp_append 0 8 x65.1.plan.length _ (x85.length) _ b0 f2 db rfl rfl (by decide) rfl (by rfl) (by kernel_rfl) (by rfl) (by rfl) (Cells.len ch) (il.cell db.has ch.one) ch.one (by rw [dh]; simp <;> omega) (by rw [dh]; exact hq) (by decide) fun av ax dq i3 jq e7 (f4 : Kn 92 (K75e11 b_s_ b_known b_find a b d f g r_ l m p ah) ((tS 85 av x85.length ax) :: (tS 84 aj x65.1.plan.length al) :: (tS 82 cc 1 1) :: (tI 13 (IntKind.i64.wrap (x65.1.cost + x71))) :: (K75m19 x_v10)) i3) (d2 : Mem (Fr.put F bm_known (some (.map bi bg))) bo (K75e11 b_s_ b_known b_find a b d f g r_ l m p ah) (K75p18 q s_ s u z bm_known b_s_ b_known b_find r_ aa x24 ab x33 ae x_v11 af x_v12 ac aj x65 al) [⟨av, x85.length, ax, 3, 1, (([.int .i64 x_v10] : List Value) ++ b0), dq⟩] jq) => ?_
           have c0 : Cells bo x85 (([.int .i64 x_v10] : List Value) ++ b0) := by rw [dh]; exact Cells.append e4 ch
           obtain rfl : dq = 0 := Nat.le_zero.1 e7
           refine hK _ _ ?_
           refine Rk 5 2 ((tA 87 [.slice av x85.length ax, .int .i64 (IntKind.i64.wrap (x65.1.cost + x71))]) :: (K75m19 x_v10)) f4 d2 fun i4 f5 => ?_
           refine wl fun K hK => ?_
           refine wst 8 0 (.agg [.slice av x85.length ax, .int .i64 (IntKind.i64.wrap (x65.1.cost + x71))]) [.slice av x85.length ax, .int .i64 (IntKind.i64.wrap (x65.1.cost + x71))] f5 d2 fun eo f6 (dc : Mem (Fr.put F bm_known (some (.map bi bg))) bo (K75e11 b_s_ b_known b_find a b d f g r_ l m p ah) [⟨(K75c7 q s_ s u z), none⟩, ⟨[.map (some bm_known)], none⟩, ⟨(K75c8 b_s_ b_known b_find), none⟩, ⟨(K75c15 r_), some 127⟩, ⟨[.slice none 0 0, .int .i64 0], some 129⟩, ⟨(K75c3 aa x24 ab), some 129⟩, ⟨(K75c4 x33), none⟩, ⟨(K75c4 x33), some 120⟩, ⟨[.slice av x85.length ax, .int .i64 (IntKind.i64.wrap (x65.1.cost + x71))], some 129⟩, ⟨(K75c14 r_ ac), some 127⟩, ⟨(K75c5 aj x65 al), some 129⟩] [⟨av, x85.length, ax, 3, 1, (([.int .i64 x_v10] : List Value) ++ b0), 0⟩] eo) => hK _ _ ?_
           have f7 : Kn 92 (K75e11 b_s_ b_known b_find a b d f g r_ l m p ah) (K75m19 x_v10) i4 := f6.kp
           refine wf (wp_region_from (Rk 0 3 ((tI 10 (IntKind.i64.wrap (x_v10 + 1))) :: (tP 9 8 0) :: (tP 8 7 0) :: K75m20) f7 dc fun kr f9 => ?_))
           refine wf ?_
           obtain ⟨ds, c9, ij, dd⟩ := dc.settle (i := 0) rfl
           replace c0 := c0.mono c9
           replace bs := bs.mono c9
           replace dd : Mem (Fr.put F bm_known (some (.map bi bg))) ds (K75e11 b_s_ b_known b_find a b d f g r_ l m p ah) [⟨(K75c7 q s_ s u z), none⟩, ⟨[.map (some bm_known)], none⟩, ⟨(K75c8 b_s_ b_known b_find), none⟩, ⟨(K75c15 r_), some 127⟩, ⟨[.slice none 0 0, .int .i64 0], some 129⟩, ⟨(K75c3 aa x24 ab), some 129⟩, ⟨(K75c4 x33), none⟩, ⟨(K75c4 x33), some 120⟩, ⟨[.slice av x85.length ax, .int .i64 (IntKind.i64.wrap (x65.1.cost + x71))], some 129⟩, ⟨(K75c14 r_ ac), some 127⟩, ⟨(K75c5 aj x65 al), some 129⟩] [⟨av, x85.length, ax, 3, 1, (([.int .i64 x_v10] : List Value) ++ b0), ((([.int .i64 x_v10] : List Value) ++ b0) : List Value).length⟩] eo := dd
           have ic : RepS ds av ax x85 := ⟨_, c0, ij, dc.rowCap (i := 0) rfl⟩
           exact Exists.intro bf ⟨Nat.lt_succ_self _, Exists.intro (IntKind.i64.wrap (x_v10 + 1)) ⟨x85, (IntKind.i64.wrap (x65.1.cost + x71)), x65.2, av, ax, bi, bg, _, _, rfl, ((f9.keep [10, 9, 8, 5, 4, 1, 2, 3] (by rfl)).cut 9 (by kernel_rfl)), ((dd.cutRw 0).cutPl 9 (by kernel_rfl)), (Heap.le_trans ar (Heap.le_trans bm (Heap.le_trans az (Heap.le_trans ba c9)))), ic, bs, (by omega), ad⟩⟩
          ·
           rw [cx, cond_false] at ad
           refine wp_skip (wp_region_from (Rk 0 3 ((tI 10 (IntKind.i64.wrap (x_v10 + 1))) :: (tP 9 8 0) :: (tP 8 7 0) :: K75m20) c6 cl fun ks ga => ?_))
           refine wf ?_
           exact Exists.intro bf ⟨Nat.lt_succ_self _, Exists.intro (IntKind.i64.wrap (x_v10 + 1)) ⟨x_v11, x_v12, x65.2, ae, af, bi, bg, _, _, rfl, ((ga.keep [10, 9, 8, 5, 4, 1, 2, 3] (by rfl)).cut 9 (by kernel_rfl)), (cl.cutPl 9 (by kernel_rfl)), (Heap.le_trans ar (Heap.le_trans bm (Heap.le_trans az ba))), au, bs, (by omega), ad⟩⟩
       ·
        rw [cu, cond_false] at ad
        refine wp_skip (wp_seq (wp_region_from (Rk 0 2 ((tA 64 (K75c16 r_)) :: (K75m22 b_s_ b_known b_find x_v10)) c3 bd fun kt gb => ?_)))
        obtain ⟨x65, ex65, ad⟩ := bnd ad
        obtain ⟨j5, e0, hr, ii⟩ := bd.lend1 bm_known (Fr.put_X _ _ _) [] [] (by kernel_rfl) (by kernel_rfl) (by kernel_rfl) (by kernel_rfl)
        refine wl fun K hK => ?_
        refine wp_callVM (.func (.func 75) #[] #[.pointer (some ⟨b_s_, 0, none⟩), .pointer (some ⟨b_known, 0, none⟩), .pointer (some ⟨b_find, 0, none⟩)]) [.agg (K75c16 r_)] _ gb rfl rfl (by decide) (by rfl) (by rfl) rfl ⟨75, _, _, rfl, fun _ _ => by kernel_rfl, ih bf (by omega) _ _ _ _ _ _ (Rest.mk (IntKind.i64.wrap (r_.bus + 1)) r_.left) _ ((rep_pair rep_int (rep_pair rep_int (rep_pair rep_int (rep_pair rep_int (rep_pair rep_int (rep_pair rep_int (rep_pair rep_int (rep_pair rep_int (rep_pair rep_int (rep_pair rep_int (rep_pair rep_int (rep_pair rep_int (rep_pair rep_int (rep_pair rep_int rep_int)))))))))))))) : rep bl (Rest.mk (IntKind.i64.wrap (r_.bus + 1)) r_.left) _) s_ hb_s_ x_v13 _ _ _ hc_known (e0 _ _ (Fr.put_X _ _ _)) cg hc_find hr _ ex65⟩ fun lb jr ey => ?_
        obtain ⟨b5, bj, bh, bn, ⟨_, rfl, ⟨_, _, rfl, ⟨ak, am, rfl, cb⟩, rfl⟩⟩, bt, hz⟩ := ey
        have cm := ii _ _ _ _ [] bn rfl (Nat.le_refl _) (by kernel_rfl) hz
        rw [Fr.put_put] at cm
        replace an := an.mono bn
        replace ao := ao.mono bn
        replace cm : Mem (Fr.put F bm_known (some (.map bj bh))) b5 [(b_s_, 0), (b_known, 0), (b_find, 0), (a, 0), (b, 0), (d, 0), (f, g + (r_.bus : Int).toNat * 3), (l, 0), (m, 0), (p, 0)] [⟨[.slice q s_.buses.length s, .int .i64 s_.days, .slice u s_.pits.length z], none⟩, ⟨[.map (some bm_known)], none⟩, ⟨[.func (.func 75) #[] #[.pointer (some ⟨b_s_, 0, none⟩), .pointer (some ⟨b_known, 0, none⟩), .pointer (some ⟨b_find, 0, none⟩)]], none⟩, ⟨[.int .i64 r_.bus, .int .i64 r_.left.a0, .int .i64 r_.left.a1, .int .i64 r_.left.a2, .int .i64 r_.left.a3, .int .i64 r_.left.a4, .int .i64 r_.left.a5, .int .i64 r_.left.a6, .int .i64 r_.left.a7, .int .i64 r_.left.a8, .int .i64 r_.left.a9, .int .i64 r_.left.a10, .int .i64 r_.left.a11, .int .i64 r_.left.a12, .int .i64 r_.left.a13], some 127⟩, ⟨[.slice none 0 0, .int .i64 0], some 129⟩, ⟨[.slice aa x24.1.plan.length ab, .int .i64 x24.1.cost], some 129⟩, ⟨[.int .i64 x33.due, .int .i64 x33.work, .int .i64 x33.cost], none⟩, ⟨[.int .i64 x33.due, .int .i64 x33.work, .int .i64 x33.cost], some 120⟩, ⟨[.slice ae x_v11.length af, .int .i64 x_v12], some 129⟩, ⟨[.int .i64 (IntKind.i64.wrap (r_.bus + 1)), .int .i64 r_.left.a0, .int .i64 r_.left.a1, .int .i64 r_.left.a2, .int .i64 r_.left.a3, .int .i64 r_.left.a4, .int .i64 r_.left.a5, .int .i64 r_.left.a6, .int .i64 r_.left.a7, .int .i64 r_.left.a8, .int .i64 r_.left.a9, .int .i64 r_.left.a10, .int .i64 r_.left.a11, .int .i64 r_.left.a12, .int .i64 r_.left.a13], some 127⟩] [] jr := cm
        refine ⟨.one (.agg (K75c6 ak x65 am)), rfl, fun i5 (gd : Kn 92 (K75e10 b_s_ b_known b_find a b d f g r_ l m p) ((tA 65 (K75c6 ak x65 am)) :: (tA 64 (K75c16 r_)) :: (K75m22 b_s_ b_known b_find x_v10)) i5) => hK _ _ ?_⟩
        refine wl fun K hK => ?_
        refine wa [.slice none 0 0, .int .i64 0] gd cm fun ai ek js (gf : Kn 92 (K75e12 b_s_ b_known b_find a b d f g r_ l m p ai) ((tP 12 10 0) :: (tA 65 (K75c6 ak x65 am)) :: (tA 64 (K75c16 r_)) :: (K75m22 b_s_ b_known b_find x_v10)) ek) (h0 : Mem (Fr.put F bm_known (some (.map bj bh))) b5 (K75e12 b_s_ b_known b_find a b d f g r_ l m p ai) [⟨(K75c7 q s_ s u z), none⟩, ⟨[.map (some bm_known)], none⟩, ⟨(K75c8 b_s_ b_known b_find), none⟩, ⟨(K75c15 r_), some 127⟩, ⟨[.slice none 0 0, .int .i64 0], some 129⟩, ⟨(K75c3 aa x24 ab), some 129⟩, ⟨(K75c4 x33), none⟩, ⟨(K75c4 x33), some 120⟩, ⟨(K75c1 ae x_v11 af x_v12), some 129⟩, ⟨(K75c16 r_), some 127⟩, ⟨[.slice none 0 0, .int .i64 0], some 129⟩] [] js) => hK _ _ ?_
        refine wl fun K hK => ?_
        refine wst 10 0 (.agg (K75c6 ak x65 am)) (K75c6 ak x65 am) gf h0 fun jt gg (b9 : Mem (Fr.put F bm_known (some (.map bj bh))) b5 (K75e12 b_s_ b_known b_find a b d f g r_ l m p ai) (K75p17 q s_ s u z bm_known b_s_ b_known b_find r_ aa x24 ab x33 ae x_v11 af x_v12 ak x65 am) [] jt) => hK _ _ ?_
        have gh : Kn 92 (K75e12 b_s_ b_known b_find a b d f g r_ l m p ai) ((tP 12 10 0) :: (K75m19 x_v10)) ek := gg.kp
        refine wf (wp_seq (wp_region_G (by kernel_rfl) ?_))
        replace b9 := b9.drew
        refine wpG_of_D [] (K75e12 b_s_ b_known b_find a b d f g r_ l m p ai) (K75p17 q s_ s u z bm_known b_s_ b_known b_find r_ aa x24 ab x33 ae x_v11 af x_v12 ak x65 am) ?_
        refine Dr [0, 1, 2, 3, 4] (dn 4) ((tI 70 x_v10) :: (tA 69 (K75c4 x33)) :: (tA 68 (K75c7 q s_ s u z)) :: (tI 67 x65.1.cost) :: (tP 12 10 0) :: (K75m19 x_v10)) gh b9 fun kv gi => ?_
        obtain ⟨x71, ex71, ad⟩ := bnd ad
        refine Dl 5 fun K hK => ?_
        refine wc [.agg (K75c7 q s_ s u z), .agg (K75c4 x33), .c (.int .i64 x_v10)] gi b9 (pit_Shop_cost_ok bf b9.has s_ ((rep_pair (rep_slice an) (rep_pair rep_int (rep_slice ao))) : rep b5 s_ _) x33 ((rep_pair rep_int (rep_pair rep_int rep_int)) : rep b5 x33 _) x_v10 ex71) fun ld e2 li ew bb bx => ?_
        replace an := an.mono bb
        replace ao := ao.mono bb
        replace hb_s_ := hb_s_.mono (Heap.le_trans bn bb)
        replace hc_known := hc_known.mono (Heap.le_trans bn bb)
        replace hc_find := hc_find.mono (Heap.le_trans bn bb)
        replace be := be.mono (Heap.le_trans bn bb)
        replace au := au.mono (Heap.le_trans bn bb)
        replace cb := cb.mono bb
        replace bt := bt.mono bb
        obtain rfl := ew
        refine ⟨.one (.c (.int .i64 x71)), rfl, fun i6 (gj : Kn 92 (K75e12 b_s_ b_known b_find a b d f g r_ l m p ai) ((tI 71 x71) :: (tI 70 x_v10) :: (tA 69 (K75c4 x33)) :: (tA 68 (K75c7 q s_ s u z)) :: (tI 67 x65.1.cost) :: (tP 12 10 0) :: (K75m19 x_v10)) i6) => hK _ _ bx.plOk ?_⟩
        refine Dr [6, 7] (dn 7) (K75m21 x65 x71 x_v10) gj bx fun kw gk => ?_
        refine wpD_end (by kernel_rfl) (wp_seq ?_)
        obtain ⟨ee, cf, ad⟩ := bnd ad
        refine wp_mid' (fun a' w' => ∃ (dm : Array Value) (bp : Heap), a' = ⟨dm, []⟩ ∧ Kn 92 (K75e12 b_s_ b_known b_find a b d f g r_ l m p ai) [(tI 13 (IntKind.i64.wrap (x65.1.cost + x71))), (tP 12 10 0), (tI 10 x_v10), (tP 9 8 0), (tP 8 7 0), (tP 5 4 0), (tP 4 3 0), (tP 1 0 0), (tP 2 1 0), (tP 3 2 0), (tB 80 ee)] dm ∧ Mem (Fr.put F bm_known (some (.map bj bh))) bp (K75e12 b_s_ b_known b_find a b d f g r_ l m p ai) (K75p17 q s_ s u z bm_known b_s_ b_known b_find r_ aa x24 ab x33 ae x_v11 af x_v12 ak x65 am) [] w' ∧ Heap.le e2 bp) ?_ ?_
        ·
         refine wp_region_from (Rk 0 3 ((tB 75 (x_v10 == (-1))) :: (K75m21 x65 x71 x_v10)) gk bx fun el d0 => ?_)
         rcases Bool.eq_false_or_eq_true ((x_v10 == (-1))) with b7 | b7
         ·
          rw [b7, cond_true] at cf
          have gl : Kn 92 (K75e12 b_s_ b_known b_find a b d f g r_ l m p ai) ((tB 75 true) :: (K75m21 x65 x71 x_v10)) el := (d0.setB 75 true (by rfl) b7).kp
          refine Rk 3 5 ((tB 80 true) :: (K75m21 x65 x71 x_v10)) gl bx fun kx gm => ?_
          refine wf ?_
          obtain rfl := Option.some.inj cf
          exact Exists.intro _ ⟨_, rfl, gm.kp, bx, (Heap.le_refl _)⟩
         ·
          rw [b7, cond_false] at cf
          have gn : Kn 92 (K75e12 b_s_ b_known b_find a b d f g r_ l m p ai) ((tB 75 false) :: (K75m21 x65 x71 x_v10)) el := (d0.setB 75 false (by rfl) b7).kp
          refine Rk 3 5 ((tB 80 (decide ((IntKind.i64.wrap (x65.1.cost + x71)) < x_v12))) :: (K75m21 x65 x71 x_v10)) gn bx fun ky go => ?_
          refine wf ?_
          obtain rfl := Option.some.inj cf
          exact Exists.intro _ ⟨_, rfl, go.kp, bx, (Heap.le_refl _)⟩
        ·
         rintro _ lj ⟨dm, bp, rfl, c7, cn, bc⟩
         replace an := an.mono bc
         replace ao := ao.mono bc
         replace hb_s_ := hb_s_.mono bc
         replace hc_known := hc_known.mono bc
         replace hc_find := hc_find.mono bc
         replace be := be.mono bc
         replace au := au.mono bc
         replace cb := cb.mono bc
         replace bt := bt.mono bc
         refine wC (ee) c7 (fun cy => ?_) (fun cy => ?_)
         ·
          rw [cy, cond_true] at ad
          refine wp_region_from (Rk 0 1 ((tI 81 x_v10) :: (K75m21 x65 x71 x_v10)) c7 cn fun kz gp => ?_)
          refine wl fun K hK => ?_
          refine wS 3 1 [.int .i64 x_v10] gp cn fun cd i7 ju (gq : Kn 92 (K75e12 b_s_ b_known b_find a b d f g r_ l m p ai) ((tS 82 cd 1 1) :: (tI 81 x_v10) :: (K75m21 x65 x71 x_v10)) i7) (de : Mem (Fr.put F bm_known (some (.map bj bh))) bp (K75e12 b_s_ b_known b_find a b d f g r_ l m p ai) (K75p17 q s_ s u z bm_known b_s_ b_known b_find r_ aa x24 ab x33 ae x_v11 af x_v12 ak x65 am) [⟨cd, 1, 1, 3, 1, ([.int .i64 x_v10] : List Value), 0⟩] ju) => ?_
          have e5 : Cells bp ([x_v10] : List Int) ([.int .i64 x_v10] : List Value) := ⟨_, _, rfl, (rep_int : rep bp (x_v10 : Int) _), rfl⟩
          refine hK _ _ ?_
          refine Rk 2 2 ((tS 84 ak x65.1.plan.length am) :: (tS 82 cd 1 1) :: (tI 13 (IntKind.i64.wrap (x65.1.cost + x71))) :: (K75m19 x_v10)) gq de fun k0 gr => ?_
          obtain ⟨b1, ci, im, _⟩ := id cb
          obtain ⟨x85, ex85, ad⟩ := bnd ad
          obtain ⟨di, hs⟩ := app_some ex85
          refine wl fun K hK => ?_
          refine wp_append 0 8 x65.1.plan.length _ (x85.length) _ b1 gr de rfl rfl (by decide) rfl (by rfl) (by kernel_rfl) (by rfl) (by rfl) (Cells.len ci) (im.cell de.has ci.one) ci.one (by rw [di]; simp <;> omega) (by rw [di]; exact hs) (by decide) fun aw ay dr i9 jv e8 (gu : Kn 92 (K75e12 b_s_ b_known b_find a b d f g r_ l m p ai) ((tS 85 aw x85.length ay) :: (tS 84 ak x65.1.plan.length am) :: (tS 82 cd 1 1) :: (tI 13 (IntKind.i64.wrap (x65.1.cost + x71))) :: (K75m19 x_v10)) i9) (d3 : Mem (Fr.put F bm_known (some (.map bj bh))) bp (K75e12 b_s_ b_known b_find a b d f g r_ l m p ai) (K75p17 q s_ s u z bm_known b_s_ b_known b_find r_ aa x24 ab x33 ae x_v11 af x_v12 ak x65 am) [⟨aw, x85.length, ay, 3, 1, (([.int .i64 x_v10] : List Value) ++ b1), dr⟩] jv) => ?_
          have c1 : Cells bp x85 (([.int .i64 x_v10] : List Value) ++ b1) := by rw [di]; exact Cells.append e5 ci
          obtain rfl : dr = 0 := Nat.le_zero.1 e8
          refine hK _ _ ?_
          refine Rk 5 2 ((tA 87 [.slice aw x85.length ay, .int .i64 (IntKind.i64.wrap (x65.1.cost + x71))]) :: (K75m19 x_v10)) gu d3 fun ja gv => ?_
          refine wl fun K hK => ?_
          refine wst 8 0 (.agg [.slice aw x85.length ay, .int .i64 (IntKind.i64.wrap (x65.1.cost + x71))]) [.slice aw x85.length ay, .int .i64 (IntKind.i64.wrap (x65.1.cost + x71))] gv d3 fun ep gw (df : Mem (Fr.put F bm_known (some (.map bj bh))) bp (K75e12 b_s_ b_known b_find a b d f g r_ l m p ai) [⟨(K75c7 q s_ s u z), none⟩, ⟨[.map (some bm_known)], none⟩, ⟨(K75c8 b_s_ b_known b_find), none⟩, ⟨(K75c15 r_), some 127⟩, ⟨[.slice none 0 0, .int .i64 0], some 129⟩, ⟨(K75c3 aa x24 ab), some 129⟩, ⟨(K75c4 x33), none⟩, ⟨(K75c4 x33), some 120⟩, ⟨[.slice aw x85.length ay, .int .i64 (IntKind.i64.wrap (x65.1.cost + x71))], some 129⟩, ⟨(K75c16 r_), some 127⟩, ⟨(K75c6 ak x65 am), some 129⟩] [⟨aw, x85.length, ay, 3, 1, (([.int .i64 x_v10] : List Value) ++ b1), 0⟩] ep) => hK _ _ ?_
          have gx : Kn 92 (K75e12 b_s_ b_known b_find a b d f g r_ l m p ai) (K75m19 x_v10) ja := gw.kp
          refine wf (wp_region_from (Rk 0 3 ((tI 10 (IntKind.i64.wrap (x_v10 + 1))) :: (tP 9 8 0) :: (tP 8 7 0) :: K75m20) gx df fun k2 gy => ?_))
          refine wf ?_
          obtain ⟨dt, da, ik, dg⟩ := df.settle (i := 0) rfl
          replace c1 := c1.mono da
          replace bt := bt.mono da
          replace dg : Mem (Fr.put F bm_known (some (.map bj bh))) dt (K75e12 b_s_ b_known b_find a b d f g r_ l m p ai) [⟨(K75c7 q s_ s u z), none⟩, ⟨[.map (some bm_known)], none⟩, ⟨(K75c8 b_s_ b_known b_find), none⟩, ⟨(K75c15 r_), some 127⟩, ⟨[.slice none 0 0, .int .i64 0], some 129⟩, ⟨(K75c3 aa x24 ab), some 129⟩, ⟨(K75c4 x33), none⟩, ⟨(K75c4 x33), some 120⟩, ⟨[.slice aw x85.length ay, .int .i64 (IntKind.i64.wrap (x65.1.cost + x71))], some 129⟩, ⟨(K75c16 r_), some 127⟩, ⟨(K75c6 ak x65 am), some 129⟩] [⟨aw, x85.length, ay, 3, 1, (([.int .i64 x_v10] : List Value) ++ b1), ((([.int .i64 x_v10] : List Value) ++ b1) : List Value).length⟩] ep := dg
          have ie : RepS dt aw ay x85 := ⟨_, c1, ik, df.rowCap (i := 0) rfl⟩
          exact Exists.intro bf ⟨Nat.lt_succ_self _, Exists.intro (IntKind.i64.wrap (x_v10 + 1)) ⟨x85, (IntKind.i64.wrap (x65.1.cost + x71)), x65.2, aw, ay, bj, bh, _, _, rfl, ((gy.keep [10, 9, 8, 5, 4, 1, 2, 3] (by rfl)).cut 9 (by kernel_rfl)), ((dg.cutRw 0).cutPl 9 (by kernel_rfl)), (Heap.le_trans ar (Heap.le_trans bn (Heap.le_trans bb (Heap.le_trans bc da)))), ie, bt, (by omega), ad⟩⟩
         ·
          rw [cy, cond_false] at ad
          refine wp_skip (wp_region_from (Rk 0 3 ((tI 10 (IntKind.i64.wrap (x_v10 + 1))) :: (tP 9 8 0) :: (tP 8 7 0) :: K75m20) c7 cn fun k3 gz => ?_))
          refine wf ?_
          exact Exists.intro bf ⟨Nat.lt_succ_self _, Exists.intro (IntKind.i64.wrap (x_v10 + 1)) ⟨x_v11, x_v12, x65.2, ae, af, bj, bh, _, _, rfl, ((gz.keep [10, 9, 8, 5, 4, 1, 2, 3] (by rfl)).cut 9 (by kernel_rfl)), (cn.cutPl 9 (by kernel_rfl)), (Heap.le_trans ar (Heap.le_trans bn (Heap.le_trans bb bc))), au, bt, (by omega), ad⟩⟩
      ·
       rw [ct, cond_false] at ad
       refine wp_exit ?_
       obtain rfl := Option.some.inj ad
       exact Exists.intro ae ⟨af, br, bq, _, _, rfl, c2.kp, cj, ar, au, cg⟩
    ·
     rintro _ lk ⟨ap, aq, cr, co, dj, bk, rfl, g1, d4, ht, ea, et⟩
     refine wp_seq (wp_region_from (Rk 0 3 [(tA 90 (K75c2 ap ag aq)), (tA 89 (K75c15 r_)), (88, .one (.c (.map (some bm_known)))), (tP 9 8 0), (tP 5 4 0)] g1 d4 fun em g2 => ?_))
     refine wl fun K hK => ?_
     refine wp_updateP (KT := 127) (E := 129) (k := (r_ : Rest)) (x := ((Done.mk ag.1 ag.2.1) : Done)) (.agg (K75c15 r_)) (.agg (K75c2 ap ag aq)) g2 d4 rfl rfl (by rfl) (by rfl) (by rfl) (by kernel_rfl) Rest.KL et rfl ⟨_, rfl, ((rep_pair (rep_slice ea) rep_int) : rep bk ((Done.mk ag.1 ag.2.1) : Done) _)⟩ fun cq cp jw eu (g3 : Kn 92 (K75e9 b_s_ b_known b_find a b d f g r_ l m) [(tA 90 (K75c2 ap ag aq)), (tA 89 (K75c15 r_)), (88, .one (.c (.map (some bm_known)))), (tP 9 8 0), (tP 5 4 0)] em) (d5 : Mem (Fr.put F bm_known (some (.map cq cp))) bk (K75e9 b_s_ b_known b_find a b d f g r_ l m) [⟨(K75c7 q s_ s u z), none⟩, ⟨[.map (some bm_known)], none⟩, ⟨(K75c8 b_s_ b_known b_find), none⟩, ⟨(K75c15 r_), some 127⟩, ⟨[.slice none 0 0, .int .i64 0], some 129⟩, ⟨(K75c3 aa x24 ab), some 129⟩, ⟨(K75c4 x33), none⟩, ⟨(K75c4 x33), some 120⟩, ⟨(K75c2 ap ag aq), some 129⟩] [] jw) => hK _ _ ?_
     have g4 : Kn 92 (K75e9 b_s_ b_known b_find a b d f g r_ l m) [(tP 9 8 0), (tP 5 4 0)] em := g3.kp
     refine wf (wp_seq (wp_region_from (Rk 0 1 [(tA 91 (K75c2 ap ag aq)), (tP 5 4 0)] g4 d5 fun jb g5 => ?_)))
     refine wl fun K hK => ?_
     refine wst 4 0 (.agg (K75c2 ap ag aq)) (K75c2 ap ag aq) g5 d5 fun jx g6 (d6 : Mem (Fr.put F bm_known (some (.map cq cp))) bk (K75e9 b_s_ b_known b_find a b d f g r_ l m) [⟨(K75c7 q s_ s u z), none⟩, ⟨[.map (some bm_known)], none⟩, ⟨(K75c8 b_s_ b_known b_find), none⟩, ⟨(K75c15 r_), some 127⟩, ⟨(K75c2 ap ag aq), some 129⟩, ⟨(K75c3 aa x24 ab), some 129⟩, ⟨(K75c4 x33), none⟩, ⟨(K75c4 x33), some 120⟩, ⟨(K75c2 ap ag aq), some 129⟩] [] jx) => hK _ _ ?_
     have g7 : Kn 92 (K75e9 b_s_ b_known b_find a b d f g r_ l m) [(tP 5 4 0)] jb := g6.kp
     refine wf (wp_ret ?_)
     obtain rfl := Option.some.inj H
     exact retM_of (.one (.agg (K75c2 ap ag aq))) g7 d6 (by kernel_rfl) ⟨bk, cq, cp, ht, ⟨_, rfl, ((rep_pair (rep_slice ea) rep_int) : rep bk ((Done.mk ag.1 ag.2.1) : Done) _)⟩, eu, ((d6.cutRw 0).cutPl 0 (by kernel_rfl))⟩
theorem pit_Best_1_ok (n : Nat) {F : Fr} {h : Heap} {w : World} {b_s_ b_known b_find : Nat} (r_ : Rest) {cs_r_ : List Value} (hx_r_ : rep h r_ cs_r_) (s_ : Shop) (hb_s_ : BoxS h b_s_ s_) (known : List (Rest × Done)) {bm_known : Nat} {es_known : Array MapEntry} {cl_known : Nat} (hc_known : CellsAt h b_known [.map (some bm_known)]) (hX_known : F.X bm_known = some (.map es_known cl_known)) (hE_known : Ents h es_known.toList cl_known known) (hc_find : CellsAt h b_find [.func (.func 75) #[] #[.pointer (some ⟨b_s_, 0, none⟩), .pointer (some ⟨b_known, 0, none⟩), .pointer (some ⟨b_find, 0, none⟩)]]) (hm : Mem F h [] [] [] w) {r : Done × (List (Rest × Done))} (H : pit_Best_1 n r_ s_ known = some r) :
  Calls Try.prog 75 #[.agg cs_r_.toArray, .pointer (some ⟨b_s_, 0, none⟩), .pointer (some ⟨b_known, 0, none⟩), .pointer (some ⟨b_find, 0, none⟩)] w (RetM fun v w' => ∃ (h' : Heap) (b3 : Array MapEntry) (b2 : Nat), Heap.le h h' ∧ (∃ cs, v = .agg cs.toArray ∧ rep h' r.1 cs) ∧ Ents h' b3.toList b2 r.2 ∧ Mem (Fr.put F bm_known (some (.map b3 b2))) h' [] [] [] w') := pit_Best_1_rec n F h w b_s_ b_known b_find r_ cs_r_ hx_r_ s_ hb_s_ known bm_known es_known cl_known hc_known hX_known hE_known hc_find hm r H
abbrev K46e1 (d j f g : Nat) : Env := [(d, 0), (j, 0), (f, 0), (g, 0)]
abbrev K46c2 (q : Option Addr) (x24 : (Done × (List (Rest × Done)))) (u : Nat) : List SC := [.slice q x24.1.plan.length u, .int .i64 x24.1.cost]
abbrev K46c3 (o : Option Addr) (s : Shop) (p : Nat) (k : Option Addr) (l : Nat) : List SC := [.slice o s.buses.length p, .int .i64 s.days, .slice k s.pits.length l]
abbrev K46c4 (d f g : Nat) : List SC := [.func (.func 75) #[] #[.pointer (some ⟨d, 0, none⟩), .pointer (some ⟨f, 0, none⟩), .pointer (some ⟨g, 0, none⟩)]]
abbrev K46c5 : List SC := [.int .i64 0, .int .i64 0, .int .i64 0, .int .i64 0, .int .i64 0, .int .i64 0, .int .i64 0, .int .i64 0, .int .i64 0, .int .i64 0, .int .i64 0, .int .i64 0, .int .i64 0, .int .i64 0]
abbrev K46c6 (b : Hours) : List SC := [.int .i64 b.a0, .int .i64 b.a1, .int .i64 b.a2, .int .i64 b.a3, .int .i64 b.a4, .int .i64 b.a5, .int .i64 b.a6, .int .i64 b.a7, .int .i64 b.a8, .int .i64 b.a9, .int .i64 b.a10, .int .i64 b.a11, .int .i64 b.a12, .int .i64 b.a13]
abbrev K46c7 (b : Hours) : List SC := [.int .i64 0, .int .i64 b.a0, .int .i64 b.a1, .int .i64 b.a2, .int .i64 b.a3, .int .i64 b.a4, .int .i64 b.a5, .int .i64 b.a6, .int .i64 b.a7, .int .i64 b.a8, .int .i64 b.a9, .int .i64 b.a10, .int .i64 b.a11, .int .i64 b.a12, .int .i64 b.a13]
abbrev K46m8 (b : Hours) (d f g : Nat) : TM := [(tA 23 (K46c7 b)), (21, .one (.c (.func (.func 75) #[] #[.pointer (some ⟨d, 0, none⟩), .pointer (some ⟨f, 0, none⟩), .pointer (some ⟨g, 0, none⟩)])))]
abbrev K46m9 : TM := [(tP 6 1 0), (tP 1 0 0)]
set_option maxRecDepth 100000 in
set_option maxHeartbeats 4000000 in
theorem pit_Best_ok (n : Nat) {h : Heap} {w : World} (hh : Has h w) (s : Shop) {cs_s : List Value} (hx_s : rep h s cs_s) {r : (List Int) × Int × Int} (H : pit_Best n s = some r) :
  Calls Try.prog 46 #[.agg cs_s.toArray] w (Ret (fun h v => ∃ v0 v1 v2, v = .tuple #[v0, v1, v2] ∧ (∃ a c, v0 = .slice a r.1.length c ∧ RepS h a c r.1) ∧ (v1 = .int .i64 r.2.1) ∧ (v2 = .int .i64 r.2.2)) h w) := by
 obtain ⟨_, _, rfl, ⟨o, p, rfl, aa⟩, ⟨_, _, rfl, rfl, ⟨k, l, rfl, y⟩⟩⟩ := hx_s
 refine enter 30 [.agg (K46c3 o s p k l)] Try.func46 rfl rfl rfl rfl fun t hk => ?_
 have hm := Mem.begin h w hh
 unfold pit_Best at H
 refine wp_seq (wp_region_from (wl fun K hK => ?_))
 refine wb (.agg (K46c3 o s p k l)) hk hm fun d c7 dd (bw : Kn 30 [(d, 0)] [(tP 1 0 0), (tA 0 (K46c3 o s p k l))] c7) (ai : Mem ⟨w, h, noX⟩ h [(d, 0)] [⟨(K46c3 o s p k l), some 79⟩] [] dd) => hK _ _ ?_
 refine Rk 1 3 [(tP 1 0 0)] bw ai fun dl b3 => ?_
 refine wf (wp_seq (wp_seq (wp_region_from (Rk 0 1 [(tA 10 (K46c3 o s p k l)), (tP 1 0 0)] b3 ai fun dp b6 => ?_))))
 obtain ⟨x11, ex11, H⟩ := bnd H
 refine wl fun K hK => ?_
 refine wc [.agg (K46c3 o s p k l)] b6 ai (pit_Shop_check_ok n ai.has s ((rep_pair (rep_slice aa) (rep_pair rep_int (rep_slice y))) : rep h s _) ex11) fun dw x dz bq be ac => ?_
 replace aa := aa.mono be
 replace y := y.mono be
 obtain rfl := bq
 refine ⟨.one (.c (.int .i64 x11)), rfl, fun c3 (b7 : Kn 30 [(d, 0)] [(tI 11 x11), (tA 10 (K46c3 o s p k l)), (tP 1 0 0)] c3) => hK _ _ ?_⟩
 refine Rk 2 1 [(tI 5 x11), (tP 1 0 0)] b7 ac fun dq b8 => ?_
 refine wf (wp_seq (wp_region_from (Rk 0 2 [(tB 13 (x11 != 0)), (tI 5 x11), (tP 1 0 0)] b8 ac fun dr au => ?_)))
 refine wf (wC ((x11 != 0)) au (fun ap => ?_) (fun ap => ?_))
 ·
  rw [ap, cond_true] at H
  refine wp_seq (wp_region_from (Rk 0 4 [(tI 4 x11), (tI 3 0), (tS 2 none 0 0)] au ac fun ds b9 => ?_))
  refine wf (wp_ret ?_)
  obtain rfl := Option.some.inj H
  exact rt (.tup [.c (.slice none 0 0), .c (.int .i64 0), .c (.int .i64 x11)]) b9 ac ⟨_, _, _, rfl, ⟨_, _, rfl, RepS.nil⟩, rfl, rfl⟩
 ·
  rw [ap, cond_false] at H
  refine wp_skip (wp_seq (wp_region_from (wl fun K hK => ?_)))
  refine wa K46c5 au ac fun j bi da (ca : Kn 30 [(d, 0), (j, 0)] [(tP 6 1 0), (tB 13 (x11 != 0)), (tI 5 x11), (tP 1 0 0)] bi) (ad : Mem ⟨w, h, noX⟩ x [(d, 0), (j, 0)] [⟨(K46c3 o s p k l), some 79⟩, ⟨K46c5, some 123⟩] [] da) => hK _ _ ?_
  have bd : Kn 30 [(d, 0), (j, 0)] K46m9 bi := ca.kp
  refine wf (wp_seq (wp_region_G (by kernel_rfl) ?_))
  replace ad := ad.drew
  refine wpG_of_D [] [(d, 0), (j, 0)] [⟨(K46c3 o s p k l), some 79⟩, ⟨K46c5, some 123⟩] ?_
  refine D_one 0 (.one (.c (.slice (some ⟨j, 0, none⟩) 14 14))) (fun _ _ _ _ _ h => h) rfl (by kernel_rfl) (by kernel_rfl) (rfl) rfl ad.plOk (fun _ h => h) (fun w => run_sliceW (i := 1) (off := 0) (n := 14) (T := 123) (E := 3) (sz := 1) bd rfl rfl (by kernel_rfl) (by kernel_rfl)) (bd.put (by decide) _) fun c4 (cb : Kn 30 [(d, 0), (j, 0)] ((tS 15 (some ⟨j, 0, none⟩) 14 14) :: K46m9) c4) => ?_
  refine Dr [1, 2] [2, 1, 0] ((tS 17 k s.pits.length l) :: (tS 15 (some ⟨j, 0, none⟩) 14 14) :: K46m9) cb ad fun dt cc => ?_
  obtain ⟨b, bo, H⟩ := bnd H
  refine D_sync 3 rfl (by kernel_rfl) (by decide) (rfl) (by kernel_rfl) fun K hK => ?_
  refine wp_copyA (i := 1) (E := 3) (xs := (Hours.mk 0 0 0 0 0 0 0 0 0 0 0 0 0 0).toL) (ys := b.toL) ⟨j, 0, none⟩ cc ad rfl rfl (by decide) (by rfl) rfl (by rfl) (by kernel_rfl) (by kernel_rfl) rfl rfl rfl y rfl (Hours.ofL_some bo) fun bj bm (cd : Kn 30 [(d, 0), (j, 0)] ((tI 18 ((min s.pits.length 14 : Nat) : Int)) :: (tS 17 k s.pits.length l) :: (tS 15 (some ⟨j, 0, none⟩) 14 14) :: K46m9) bj) (ct : Mem ⟨w, h, noX⟩ x [(d, 0), (j, 0)] [⟨(K46c3 o s p k l), some 79⟩, ⟨(K46c6 b), some 123⟩] [] bm) => hK _ _ ?_
  have ce : Kn 30 [(d, 0), (j, 0)] K46m9 bj := cd.kp
  refine wpG_end (by kernel_rfl) (wp_seq (wp_region_from (wl fun K hK => ?_)))
  refine wp_makeMap ce ct rfl rfl (by decide) fun m c5 dh (cf : Kn 30 [(d, 0), (j, 0)] ((19, .one (.c (.map (some m)))) :: K46m9) c5) (cu : Mem (Fr.put ⟨w, h, noX⟩ m (some (.map #[] 0))) x [(d, 0), (j, 0)] [⟨(K46c3 o s p k l), some 79⟩, ⟨(K46c6 b), some 123⟩] [] (World.alloc bm (.map #[] 0))) => ?_
  have al : Ents x (#[] : Array MapEntry).toList 0 ([] : List (Rest × Done)) := Ents.nil
  refine hK _ _ ?_
  refine wl fun K hK => ?_
  refine wa [.map none] cf cu fun f bk db (cg : Kn 30 [(d, 0), (j, 0), (f, 0)] ((tP 7 2 0) :: (19, .one (.c (.map (some m)))) :: K46m9) bk) (cv : Mem (Fr.put ⟨w, h, noX⟩ m (some (.map #[] 0))) x [(d, 0), (j, 0), (f, 0)] [⟨(K46c3 o s p k l), some 79⟩, ⟨(K46c6 b), some 123⟩, ⟨[.map none], some 124⟩] [] db) => hK _ _ ?_
  refine wl fun K hK => ?_
  refine wst 2 0 (.c (.map (some m))) [.map (some m)] cg cv fun dc ch (cw : Mem (Fr.put ⟨w, h, noX⟩ m (some (.map #[] 0))) x [(d, 0), (j, 0), (f, 0)] [⟨(K46c3 o s p k l), some 79⟩, ⟨(K46c6 b), some 123⟩, ⟨[.map (some m)], some 124⟩] [] dc) => hK _ _ ?_
  have ci : Kn 30 [(d, 0), (j, 0), (f, 0)] ((tP 7 2 0) :: K46m9) bk := ch.kp
  refine wf (wp_seq (wp_region_from (wl fun K hK => ?_)))
  refine wa [.nilfunc] ci cw fun g c6 bb (cj : Kn 30 (K46e1 d j f g) ((tP 8 3 0) :: (tP 7 2 0) :: K46m9) c6) (cx : Mem (Fr.put ⟨w, h, noX⟩ m (some (.map #[] 0))) x (K46e1 d j f g) [⟨(K46c3 o s p k l), some 79⟩, ⟨(K46c6 b), some 123⟩, ⟨[.map (some m)], some 124⟩, ⟨[.nilfunc], some 125⟩] [] bb) => hK _ _ ?_
  refine wf (wp_seq (wp_region_from ?_))
  obtain ⟨ag, av, bc, ay⟩ := cx.settlePlc (i := 0) rfl
  replace aa := aa.mono av
  replace y := y.mono av
  replace ay : Mem (Fr.put ⟨w, h, noX⟩ m (some (.map #[] 0))) ag (K46e1 d j f g) [⟨(K46c3 o s p k l), none⟩, ⟨(K46c6 b), some 123⟩, ⟨[.map (some m)], some 124⟩, ⟨[.nilfunc], some 125⟩] [] bb := ay
  have aq : BoxS ag d (s : Shop) := BoxS.of (e := (K46e1 d j f g)) (cs := (K46c3 o s p k l)) ((rep_pair (rep_slice aa) (rep_pair rep_int (rep_slice y))) : rep ag (s : Shop) _) rfl bc
  have dj : CellsAt ag d [.slice o s.buses.length p, .int .i64 s.days, .slice k s.pits.length l] := CellsAt.of (e := [(d, 0), (j, 0), (f, 0), (g, 0)]) (cs := [.slice o s.buses.length p, .int .i64 s.days, .slice k s.pits.length l]) rfl bc
  obtain ⟨an, bf, bu, az⟩ := ay.settlePlc (i := 2) rfl
  replace az : Mem (Fr.put ⟨w, h, noX⟩ m (some (.map #[] 0))) an (K46e1 d j f g) [⟨(K46c3 o s p k l), none⟩, ⟨(K46c6 b), some 123⟩, ⟨[.map (some m)], none⟩, ⟨[.nilfunc], some 125⟩] [] bb := az
  have ar : CellsAt an f [.map (some m)] := CellsAt.of (e := [(d, 0), (j, 0), (f, 0), (g, 0)]) (cs := [.map (some m)]) rfl bu
  refine R_func 0 #[] #[.pointer (some ⟨d, 0, none⟩), .pointer (some ⟨f, 0, none⟩), .pointer (some ⟨g, 0, none⟩)] cj rfl rfl (rfl) rfl (by decide) (by rfl) (by rfl) (by rfl) (by rfl) fun bl (ck : Kn 30 (K46e1 d j f g) ((20, .one (.c (.func (.func 75) #[] #[.pointer (some ⟨d, 0, none⟩), .pointer (some ⟨f, 0, none⟩), .pointer (some ⟨g, 0, none⟩)]))) :: (tP 8 3 0) :: (tP 7 2 0) :: K46m9) bl) => ?_
  refine wl fun K hK => ?_
  refine wst 3 0 (.c (.func (.func 75) #[] #[.pointer (some ⟨d, 0, none⟩), .pointer (some ⟨f, 0, none⟩), .pointer (some ⟨g, 0, none⟩)])) (K46c4 d f g) ck az fun bn cl (bg : Mem (Fr.put ⟨w, h, noX⟩ m (some (.map #[] 0))) an (K46e1 d j f g) [⟨(K46c3 o s p k l), none⟩, ⟨(K46c6 b), some 123⟩, ⟨[.map (some m)], none⟩, ⟨(K46c4 d f g), some 125⟩] [] bn) => hK _ _ ?_
  have cm : Kn 30 (K46e1 d j f g) [(tP 8 3 0), (tP 6 1 0)] bl := cl.kp
  refine wf (wp_seq (wp_region_from (Rk 0 3 (K46m8 b d f g) cm bg fun du cn => ?_)))
  obtain ⟨ao, aw, bv, ba⟩ := bg.settlePlc (i := 3) rfl
  replace aq := aq.mono (Heap.le_trans bf aw)
  replace ar := ar.mono aw
  replace al := al.mono (Heap.le_trans (Heap.le_trans av bf) aw)
  replace ba : Mem (Fr.put ⟨w, h, noX⟩ m (some (.map #[] 0))) ao (K46e1 d j f g) [⟨(K46c3 o s p k l), none⟩, ⟨(K46c6 b), some 123⟩, ⟨[.map (some m)], none⟩, ⟨(K46c4 d f g), none⟩] [] bn := ba
  have bt : CellsAt ao g [.func (.func 75) #[] #[.pointer (some ⟨d, 0, none⟩), .pointer (some ⟨f, 0, none⟩), .pointer (some ⟨g, 0, none⟩)]] := CellsAt.of (e := [(d, 0), (j, 0), (f, 0), (g, 0)]) (cs := [.func (.func 75) #[] #[.pointer (some ⟨d, 0, none⟩), .pointer (some ⟨f, 0, none⟩), .pointer (some ⟨g, 0, none⟩)]]) rfl bv
  obtain ⟨x24, ex24, H⟩ := bnd H
  obtain ⟨df, bs, co, c0⟩ := ba.lend1 m (Fr.put_X _ _ _) [] [] (by kernel_rfl) (by kernel_rfl) (by kernel_rfl) (by kernel_rfl)
  refine wl fun K hK => ?_
  refine wp_callVM (.func (.func 75) #[] #[.pointer (some ⟨d, 0, none⟩), .pointer (some ⟨f, 0, none⟩), .pointer (some ⟨g, 0, none⟩)]) [.agg (K46c7 b)] _ cn rfl rfl (by decide) (by rfl) (by rfl) rfl ⟨75, _, _, rfl, fun _ _ => by kernel_rfl, pit_Best_1_ok n (Rest.mk 0 b) ((rep_pair rep_int (rep_pair rep_int (rep_pair rep_int (rep_pair rep_int (rep_pair rep_int (rep_pair rep_int (rep_pair rep_int (rep_pair rep_int (rep_pair rep_int (rep_pair rep_int (rep_pair rep_int (rep_pair rep_int (rep_pair rep_int (rep_pair rep_int rep_int)))))))))))))) : rep ao (Rest.mk 0 b) _) s aq ([] : List (Rest × Done)) ar (bs _ _ (Fr.put_X _ _ _)) al bt co ex24⟩ fun dx de br => ?_
  obtain ⟨am, ak, aj, cp, ⟨_, rfl, ⟨_, _, rfl, ⟨q, u, rfl, cy⟩, rfl⟩⟩, dg, cq⟩ := br
  have ah := c0 _ _ _ _ [] cp rfl (Nat.le_refl _) (by kernel_rfl) cq
  rw [Fr.put_put] at ah
  replace ah : Mem (Fr.put ⟨w, h, noX⟩ m (some (.map ak aj))) am [(d, 0), (j, 0), (f, 0), (g, 0)] [⟨[.slice o s.buses.length p, .int .i64 s.days, .slice k s.pits.length l], none⟩, ⟨[.int .i64 b.a0, .int .i64 b.a1, .int .i64 b.a2, .int .i64 b.a3, .int .i64 b.a4, .int .i64 b.a5, .int .i64 b.a6, .int .i64 b.a7, .int .i64 b.a8, .int .i64 b.a9, .int .i64 b.a10, .int .i64 b.a11, .int .i64 b.a12, .int .i64 b.a13], some 123⟩, ⟨[.map (some m)], none⟩, ⟨[.func (.func 75) #[] #[.pointer (some ⟨d, 0, none⟩), .pointer (some ⟨f, 0, none⟩), .pointer (some ⟨g, 0, none⟩)]], none⟩] [] de := ah
  refine ⟨.one (.agg (K46c2 q x24 u)), rfl, fun c1 (bx : Kn 30 (K46e1 d j f g) ((tA 24 (K46c2 q x24 u)) :: (K46m8 b d f g)) c1) => hK _ _ ?_⟩
  refine wl fun K hK => ?_
  refine wa [.slice none 0 0, .int .i64 0] bx ah fun z bh c8 (bz : Kn 30 [(d, 0), (j, 0), (f, 0), (g, 0), (z, 0)] ((tP 9 4 0) :: (tA 24 (K46c2 q x24 u)) :: (K46m8 b d f g)) bh) (cr : Mem (Fr.put ⟨w, h, noX⟩ m (some (.map ak aj))) am [(d, 0), (j, 0), (f, 0), (g, 0), (z, 0)] [⟨(K46c3 o s p k l), none⟩, ⟨(K46c6 b), some 123⟩, ⟨[.map (some m)], none⟩, ⟨(K46c4 d f g), none⟩, ⟨[.slice none 0 0, .int .i64 0], some 129⟩] [] c8) => hK _ _ ?_
  refine wl fun K hK => ?_
  refine wst 4 0 (.agg (K46c2 q x24 u)) (K46c2 q x24 u) bz cr fun c9 b0 (ab : Mem (Fr.put ⟨w, h, noX⟩ m (some (.map ak aj))) am [(d, 0), (j, 0), (f, 0), (g, 0), (z, 0)] [⟨(K46c3 o s p k l), none⟩, ⟨(K46c6 b), some 123⟩, ⟨[.map (some m)], none⟩, ⟨(K46c4 d f g), none⟩, ⟨(K46c2 q x24 u), some 129⟩] [] c9) => hK _ _ ?_
  have b1 : Kn 30 [(d, 0), (j, 0), (f, 0), (g, 0), (z, 0)] [(tP 9 4 0)] bh := b0.kp
  refine wf (wp_seq (wp_region_G (by kernel_rfl) ?_))
  replace ab := ab.drew
  refine wpG_of_D [] [(d, 0), (j, 0), (f, 0), (g, 0), (z, 0)] [⟨(K46c3 o s p k l), none⟩, ⟨(K46c6 b), some 123⟩, ⟨[.map (some m)], none⟩, ⟨(K46c4 d f g), none⟩, ⟨(K46c2 q x24 u), some 129⟩] ?_
  refine Dr [0, 1, 3, 4] [4, 3, 1, 0] [(tI 29 x24.1.cost), (tS 26 q x24.1.plan.length u)] b1 ab fun dm b2 => ?_
  obtain ⟨x27, ex27, H⟩ := bnd H
  refine Dl 2 fun K hK => ?_
  refine wc [.c (.slice q x24.1.plan.length u)] b2 ab (slices_Clone_int_int_ok n ab.has x24.1.plan cy ex27) fun dv di dy bp dk ax => ?_
  obtain ⟨ae, af, rfl, cz⟩ := bp
  refine ⟨.one (.c (.slice ae x27.length af)), rfl, fun c2 (b4 : Kn 30 [(d, 0), (j, 0), (f, 0), (g, 0), (z, 0)] [(tS 27 ae x27.length af), (tI 29 x24.1.cost), (tS 26 q x24.1.plan.length u)] c2) => hK _ _ ax.plOk ?_⟩
  refine Dr [5, 6, 7] [7, 6, 5, 2, 4, 3, 1, 0] [(tI 4 0), (tI 3 x24.1.cost), (tS 2 ae x27.length af)] b4 ax fun dn b5 => ?_
  refine wpD_end (by kernel_rfl) (wp_ret ?_)
  obtain rfl := Option.some.inj H
  exact rt (.tup [.c (.slice ae x27.length af), .c (.int .i64 x24.1.cost), .c (.int .i64 0)]) b5 ax ⟨_, _, _, rfl, ⟨_, _, rfl, cz⟩, rfl, rfl⟩
end Go.Proofs.Ytkbphdjemgibnaa
