/- Each call computes its plain function. -/
import Derived.Test.YtkbphdjemgibnaaProg
import Derived.Test.YtkbphdjemgibnaaBsP0
import Derived.Test.YtkbphdjemgibnaaBsWA
import Derived.Test.YtkbphdjemgibnaaBsWB
set_option linter.all false
namespace Go.Proofs.Ytkbphdjemgibnaa
open Go Go.RowKit
open Rep (rep)
open KRep (kv)
open VRep (rv)
abbrev K42c1 : List SC := [.slice none 0 0, .int .i64 0, .slice none 0 0]
abbrev K42c2 (x23 : Job) : List SC := [.int .i64 x23.due, .int .i64 x23.work, .int .i64 x23.cost]
abbrev K42c3 (x29 : Job) : List SC := [.int .i64 x29.due, .int .i64 x29.work, .int .i64 x29.cost]
abbrev K42c4 (x35 : Job) : List SC := [.int .i64 x35.due, .int .i64 x35.work, .int .i64 x35.cost]
abbrev K42c5 (s : Shop) (l : Option Addr) (x9 : List Int) (p : Nat) : List SC := [.slice none 0 0, .int .i64 s.days, .slice l x9.length p]
abbrev K42c6 (y : Option Addr) (x : List Job) (z : Nat) (s : Shop) (l : Option Addr) (x9 : List Int) (p : Nat) : List SC := [.slice y x.length z, .int .i64 s.days, .slice l x9.length p]
abbrev K42c7 (g : Option Addr) (s : Shop) (k : Nat) (e : Option Addr) (f : Nat) : List SC := [.slice g s.buses.length k, .int .i64 s.days, .slice e s.pits.length f]
abbrev K42e8 (a d m ab ac : Nat) (x_v11 : Int) (ae af ah ai : Nat) : Env := [(a, 0), (d, 0), (m, 0), (ab, ac + (x_v11 : Int).toNat * 3), (ae, af + (x_v11 : Int).toNat * 3), (ah, ai + (x_v11 : Int).toNat * 3)]
abbrev K42p9 (g : Option Addr) (s : Shop) (k : Nat) (e : Option Addr) (f : Nat) : List Plc := [⟨(K42c7 g s k e f), some 74⟩, ⟨K42c1, some 79⟩, ⟨K42c1, some 79⟩]
abbrev K42m10 (q : Option Addr) (x_v10 : List Job) (u : Nat) (x_v11 : Int) : TM := [(tS 19 q x_v10.length u), (tI 4 x_v11), (tP 3 2 0), (tP 2 1 0), (tP 1 0 0)]
abbrev K42m11 : TM := [(tP 2 1 0), (tP 1 0 0)]
set_option maxRecDepth 100000 in
set_option maxHeartbeats 4000000 in
theorem law_Shop_ok (n : Nat) {h : Heap} {w : World} (hh : Has h w) (s : Shop) {cs_s : List Value} (hx_s : rep h s cs_s) {r : Shop} (H : law_Shop n s = some r) :
  Calls Try.prog 42 #[.agg cs_s.toArray] w (Ret (fun h v => ∃ cs, v = .agg cs.toArray ∧ rep h r cs) h w) := by
 obtain ⟨_, _, rfl, ⟨g, k, rfl, an⟩, ⟨_, _, rfl, rfl, ⟨e, f, rfl, a0⟩⟩⟩ := hx_s
 refine enter 43 [.agg (K42c7 g s k e f)] Try.func42 rfl rfl rfl rfl fun t hk => ?_
 have hm := Mem.begin h w hh
 unfold law_Shop at H
 refine wp_seq (wp_region_from (wl fun K hK => ?_))
 refine wb (.agg (K42c7 g s k e f)) hk hm fun a ef em (ch : Kn 43 [(a, 0)] [(tP 1 0 0), (tA 0 (K42c7 g s k e f))] ef) (di : Mem ⟨w, h, noX⟩ h [(a, 0)] [⟨(K42c7 g s k e f), some 74⟩] [] em) => hK _ _ ?_
 refine wl fun K hK => ?_
 refine wa K42c1 ch di fun d b1 b2 (cv : Kn 43 [(a, 0), (d, 0)] [(tP 2 1 0), (tP 1 0 0), (tA 0 (K42c7 g s k e f))] b1) (az : Mem ⟨w, h, noX⟩ h [(a, 0), (d, 0)] [⟨(K42c7 g s k e f), some 74⟩, ⟨K42c1, some 79⟩] [] b2) => hK _ _ ?_
 have cz : Kn 43 [(a, 0), (d, 0)] K42m11 b1 := cv.kp
 refine wf (wp_seq (wp_region_G (by kernel_rfl) ?_))
 replace az := az.drew
 refine wpG_of_D [] [(a, 0), (d, 0)] [⟨(K42c7 g s k e f), some 74⟩, ⟨K42c1, some 79⟩] ?_
 refine Dr [0, 1, 2, 3] (dn 3) ((tS 8 e s.pits.length f) :: (tI 6 s.days) :: K42m11) cz az fun ec c3 => ?_
 obtain ⟨x9, ex9, H⟩ := bnd H
 have bq : Kn 43 [(a, 0), (d, 0), (0, 0)] ((tS 8 e s.pits.length f) :: (tI 6 s.days) :: K42m11) ec := c3.push (0, 0) (by kernel_rfl)
 have be : Mem ⟨w, h, noX⟩ h [(a, 0), (d, 0), (0, 0)] [⟨(K42c7 g s k e f), some 74⟩, ⟨K42c1, some 79⟩, ⟨[], none⟩] [] (World.drew b2) := az.addPlc (b := 0) (o := 0) (cs := []) (fun j c hj => by simp at hj) rfl (by kernel_rfl) (by kernel_rfl)
 refine D_ext (e' := [(a, 0), (d, 0), (0, 0)]) (pl' := [⟨(K42c7 g s k e f), some 74⟩, ⟨K42c1, some 79⟩, ⟨[], none⟩]) (fun _ hp => hp.pop (Nat.le_of_eq rfl) (by kernel_rfl)) ?_
 refine D_share (fun W => ∀ (m : Nat), ∀ (l : Option Addr), ∀ (p : Nat), ∀ a' w', (∃ (a1 : Array Value) (aj : Heap), a' = ⟨a1, []⟩ ∧ Kn 43 [(a, 0), (d, 0), (m, 0)] ((tP 3 2 0) :: (tA 10 (K42c5 s l x9 p)) :: K42m11) a1 ∧ Mem ⟨w, h, noX⟩ aj [(a, 0), (d, 0), (m, 0)] (K42p9 g s k e f) [] w' ∧ Heap.le h aj ∧ RepS aj l p x9) → W [(a, 0), (d, 0), (m, 0)] (K42p9 g s k e f) [5, 4, 6, 3, 2, 1, 0] a' w') ?_ (fun b0 => ?_)
 ·
  intro m l p
  rintro _ e6 ⟨a1, aj, rfl, c4, dj, bs, bh⟩
  replace an := an.mono bs
  replace a0 := a0.mono bs
  refine D_sync 7 rfl (by kernel_rfl) (by decide) (rfl) (by kernel_rfl) fun K hK => ?_
  refine wst 2 0 (.agg (K42c5 s l x9 p)) (K42c5 s l x9 p) c4 dj fun b4 c5 (bz : Mem ⟨w, h, noX⟩ aj [(a, 0), (d, 0), (m, 0)] [⟨(K42c7 g s k e f), some 74⟩, ⟨K42c1, some 79⟩, ⟨(K42c5 s l x9 p), some 79⟩] [] b4) => hK _ _ ?_
  refine wpG_of_D [] [(a, 0), (d, 0), (m, 0)] [⟨(K42c7 g s k e f), some 74⟩, ⟨K42c1, some 79⟩, ⟨(K42c5 s l x9 p), some 79⟩] ?_
  have c6 : Kn 43 [(a, 0), (d, 0), (m, 0)] ((tP 3 2 0) :: K42m11) a1 := c5.kp
  refine wpD_end (by kernel_rfl) (wp_seq (wp_seq (wp_region_from (Rk 0 1 ((tI 4 0) :: (tP 3 2 0) :: K42m11) c6 bz fun ew c7 => ?_))))
  refine wf ?_
  have dk : Mem ⟨w, h, noX⟩ aj [(a, 0), (d, 0), (m, 0)] [⟨(K42c7 g s k e f), some 74⟩, ⟨K42c1, some 79⟩, ⟨(K42c5 s l x9 p), some 79⟩] [⟨none, 0, 0, 120, 3, [], 0⟩] b4 := bz.nilRow 120 3
  have cd : Cells aj ([] : List Job) [] := Cells.nil
  obtain ⟨x, bn, H⟩ := bnd H
  refine wp_mid' (fun a' w' => ∃ (y : Option Addr) (z : Nat) (ao : List Value) (bk : Array Value) (av : Heap), a' = ⟨bk, []⟩ ∧ Kn 43 [(a, 0), (d, 0), (m, 0)] [(tP 3 2 0), (tP 2 1 0)] bk ∧ Mem ⟨w, h, noX⟩ av [(a, 0), (d, 0), (m, 0)] [⟨(K42c7 g s k e f), some 74⟩, ⟨K42c1, some 79⟩, ⟨(K42c6 y x z s l x9 p), some 79⟩] [⟨y, x.length, z, 120, 3, ao, 0⟩] w' ∧ Heap.le aj av ∧ Cells av x ao) ?_ ?_
  ·
   refine wp_block ?_
   refine wp_loop_n (fun d3 a' w' => ∃ (x_v10 : List Job) (x_v11 : Int) (q : Option Addr) (u : Nat) (ag : List Value) (bl : Array Value) (ad : Heap), a' = ⟨bl, []⟩ ∧ Kn 43 [(a, 0), (d, 0), (m, 0)] ((tI 4 x_v11) :: (tP 3 2 0) :: K42m11) bl ∧ Mem ⟨w, h, noX⟩ ad [(a, 0), (d, 0), (m, 0)] [⟨(K42c7 g s k e f), some 74⟩, ⟨K42c1, some 79⟩, ⟨[.slice q x_v10.length u, .int .i64 s.days, .slice l x9.length p], some 79⟩] [⟨q, x_v10.length, u, 120, 3, ag, 0⟩] w' ∧ Heap.le aj ad ∧ Cells ad x_v10 ag ∧ law_Shop_l1 d3 s x_v10 x_v11 = some x) n ?_ ?_
   ·
    exact Exists.intro ([] : List Job) ⟨0, none, 0, ([]), _, _, rfl, c7.kp, dk, (Heap.le_refl _), cd, bn⟩
   ·
    rintro bj _ bm ⟨x_v10, x_v11, q, u, ag, bl, ad, rfl, c8, am, a7, bp, aa⟩
    clear bn
    obtain _ | bj := bj
    ·
     rw [law_Shop_l1] at aa; cases aa
    rw [law_Shop_l1] at aa
    replace an := an.mono a7
    refine wp_seq (wp_seq (wp_region_from (Rk 0 5 ((tB 15 (decide (x_v11 < ((s.buses.length : Nat) : Int)))) :: (tI 4 x_v11) :: (tP 3 2 0) :: K42m11) c8 am fun ex a6 => ?_)))
    refine wf (wC (decide (x_v11 < ((s.buses.length : Nat) : Int))) a6 (fun a3 => ?_) (fun a3 => ?_))
    ·
     rw [a3, cond_true] at aa
     refine wp_skip (wp_seq (wp_block (wp_region_G (by kernel_rfl) ?_)))
     replace am := am.drew
     refine wpG_of_D [] [(a, 0), (d, 0), (m, 0)] [⟨(K42c7 g s k e f), some 74⟩, ⟨K42c1, some 79⟩, ⟨[.slice q x_v10.length u, .int .i64 s.days, .slice l x9.length p], some 79⟩] ?_
     refine Dr [0, 1, 2, 3, 4] (dn 4) ((tI 22 x_v11) :: (tS 21 g s.buses.length k) :: (K42m10 q x_v10 u x_v11)) a6 am fun ey c9 => ?_
     obtain ⟨x23, ex23, aa⟩ := bnd aa
     obtain ⟨dm, dr, d1⟩ := idx_some ex23
     obtain ⟨ab, ac, en, b8, dy, ce⟩ := an.get (by decide) d1
     obtain ⟨_, _, rfl, rfl, ⟨_, _, rfl, rfl, rfl⟩⟩ := dy
     have bf : Mem ⟨w, h, noX⟩ ad [(a, 0), (d, 0), (m, 0), (ab, ac + (x_v11 : Int).toNat * 3)] [⟨(K42c7 g s k e f), some 74⟩, ⟨K42c1, some 79⟩, ⟨[.slice q x_v10.length u, .int .i64 s.days, .slice l x9.length p], some 79⟩, ⟨(K42c2 x23), none⟩] [⟨q, x_v10.length, u, 120, 3, ag, 0⟩] (World.drew bm) := am.addPlc (cs := (K42c2 x23)) (fun j c hj => ce j _ (map_get hj)) rfl (by kernel_rfl) (by kernel_rfl)
     refine D_index 5 (x_v11) (K42c2 x23) (fun _ _ _ _ _ h => h) rfl rfl (rfl) rfl (by decide) (by kernel_rfl) (by kernel_rfl) c9 am.plOk (by rfl) (by rfl) (by rfl) b8 (by rfl) dm dr (by kernel_rfl) fun ee (da : Kn 43 [(a, 0), (d, 0), (m, 0), (ab, ac + (x_v11 : Int).toNat * 3)] ((tP 23 3 0) :: (tI 22 x_v11) :: (tS 21 g s.buses.length k) :: (K42m10 q x_v10 u x_v11)) ee) => ?_
     refine Dr [6, 7, 8, 9, 10] (dn 10) ((tI 28 x_v11) :: (tS 27 g s.buses.length k) :: (tI 25 x23.due) :: (K42m10 q x_v10 u x_v11)) da bf fun ez db => ?_
     obtain ⟨x29, ex29, aa⟩ := bnd aa
     obtain ⟨dp, ds, d2⟩ := idx_some ex29
     obtain ⟨ae, af, eo, b9, dz, cf⟩ := an.get (by decide) d2
     obtain ⟨_, _, rfl, rfl, ⟨_, _, rfl, rfl, rfl⟩⟩ := dz
     have bg : Mem ⟨w, h, noX⟩ ad [(a, 0), (d, 0), (m, 0), (ab, ac + (x_v11 : Int).toNat * 3), (ae, af + (x_v11 : Int).toNat * 3)] [⟨(K42c7 g s k e f), some 74⟩, ⟨K42c1, some 79⟩, ⟨[.slice q x_v10.length u, .int .i64 s.days, .slice l x9.length p], some 79⟩, ⟨(K42c2 x23), none⟩, ⟨(K42c3 x29), none⟩] [⟨q, x_v10.length, u, 120, 3, ag, 0⟩] (World.drew bm) := bf.addPlc (cs := (K42c3 x29)) (fun j c hj => cf j _ (map_get hj)) rfl (by kernel_rfl) (by kernel_rfl)
     refine D_index 11 (x_v11) (K42c3 x29) (fun _ _ _ _ _ h => h) rfl rfl (rfl) rfl (by decide) (by kernel_rfl) (by kernel_rfl) db bf.plOk (by rfl) (by rfl) (by rfl) b9 (by rfl) dp ds (by kernel_rfl) fun eg (dc : Kn 43 [(a, 0), (d, 0), (m, 0), (ab, ac + (x_v11 : Int).toNat * 3), (ae, af + (x_v11 : Int).toNat * 3)] ((tP 29 4 0) :: (tI 28 x_v11) :: (tS 27 g s.buses.length k) :: (tI 25 x23.due) :: (K42m10 q x_v10 u x_v11)) eg) => ?_
     refine Dr [12, 13, 14, 15, 16] (dn 16) ((tI 34 x_v11) :: (tS 33 g s.buses.length k) :: (tI 31 x29.work) :: (tI 25 x23.due) :: (K42m10 q x_v10 u x_v11)) dc bg fun e0 dd => ?_
     obtain ⟨x35, ex35, aa⟩ := bnd aa
     obtain ⟨dl, dq, d0⟩ := idx_some ex35
     obtain ⟨ah, ai, ep, ca, dx, cb⟩ := an.get (by decide) d0
     obtain ⟨_, _, rfl, rfl, ⟨_, _, rfl, rfl, rfl⟩⟩ := dx
     have bt : Mem ⟨w, h, noX⟩ ad (K42e8 a d m ab ac x_v11 ae af ah ai) [⟨(K42c7 g s k e f), some 74⟩, ⟨K42c1, some 79⟩, ⟨[.slice q x_v10.length u, .int .i64 s.days, .slice l x9.length p], some 79⟩, ⟨(K42c2 x23), none⟩, ⟨(K42c3 x29), none⟩, ⟨(K42c4 x35), none⟩] [⟨q, x_v10.length, u, 120, 3, ag, 0⟩] (World.drew bm) := bg.addPlc (cs := (K42c4 x35)) (fun j c hj => cb j _ (map_get hj)) rfl (by kernel_rfl) (by kernel_rfl)
     refine D_index 17 (x_v11) (K42c4 x35) (fun _ _ _ _ _ h => h) rfl rfl (rfl) rfl (by decide) (by kernel_rfl) (by kernel_rfl) dd bg.plOk (by rfl) (by rfl) (by rfl) ca (by rfl) dl dq (by kernel_rfl) fun d4 (ci : Kn 43 (K42e8 a d m ab ac x_v11 ae af ah ai) ((tP 35 5 0) :: (tI 34 x_v11) :: (tS 33 g s.buses.length k) :: (tI 31 x29.work) :: (tI 25 x23.due) :: (K42m10 q x_v10 u x_v11)) d4) => ?_
     refine Dr [18, 19, 20] (dn 20) ((tA 38 [.int .i64 x23.due, .int .i64 x29.work, .int .i64 x35.cost]) :: (K42m10 q x_v10 u x_v11)) ci bt fun es cj => ?_
     refine Dl 21 fun K hK => ?_
     refine wS 120 3 [.int .i64 x23.due, .int .i64 x29.work, .int .i64 x35.cost] cj bt fun ap d5 eh (ck : Kn 43 (K42e8 a d m ab ac x_v11 ae af ah ai) ((tS 39 ap 1 1) :: (tA 38 [.int .i64 x23.due, .int .i64 x29.work, .int .i64 x35.cost]) :: (K42m10 q x_v10 u x_v11)) d5) (a8 : Mem ⟨w, h, noX⟩ ad (K42e8 a d m ab ac x_v11 ae af ah ai) [⟨(K42c7 g s k e f), some 74⟩, ⟨K42c1, some 79⟩, ⟨[.slice q x_v10.length u, .int .i64 s.days, .slice l x9.length p], some 79⟩, ⟨(K42c2 x23), none⟩, ⟨(K42c3 x29), none⟩, ⟨(K42c4 x35), none⟩] [⟨q, x_v10.length, u, 120, 3, ag, 0⟩, ⟨ap, 1, 1, 120, 3, ([.int .i64 x23.due, .int .i64 x29.work, .int .i64 x35.cost] : List Value), 0⟩] eh) => ?_
     have a4 : Cells ad ([(Job.mk x23.due x29.work x35.cost)] : List Job) ([.int .i64 x23.due, .int .i64 x29.work, .int .i64 x35.cost] : List Value) := ⟨_, _, rfl, ((rep_pair rep_int (rep_pair rep_int rep_int)) : rep ad ((Job.mk x23.due x29.work x35.cost) : Job) _), rfl⟩
     refine hK _ _ a8.plOk ?_
     obtain ⟨x40, ex40, aa⟩ := bnd aa
     obtain ⟨bi, de⟩ := app_some ex40
     refine Dl 22 fun K hK => ?_
     refine wp_append 0 24 1 _ (x40.length) _ ([.int .i64 x23.due, .int .i64 x29.work, .int .i64 x35.cost] : List Value) ck a8 rfl rfl (by decide) rfl (by rfl) (by kernel_rfl) (by rfl) (by rfl) (Cells.len a4) (a8.rowCell (i := 1) rfl) a4.one (by rw [bi]; simp <;> omega) (by rw [bi]; exact de) (by decide) fun ak al bo d6 ei cg (cl : Kn 43 (K42e8 a d m ab ac x_v11 ae af ah ai) ((tS 40 ak x40.length al) :: (tS 39 ap 1 1) :: (tA 38 [.int .i64 x23.due, .int .i64 x29.work, .int .i64 x35.cost]) :: (K42m10 q x_v10 u x_v11)) d6) (a9 : Mem ⟨w, h, noX⟩ ad (K42e8 a d m ab ac x_v11 ae af ah ai) [⟨(K42c7 g s k e f), some 74⟩, ⟨K42c1, some 79⟩, ⟨[.slice q x_v10.length u, .int .i64 s.days, .slice l x9.length p], some 79⟩, ⟨(K42c2 x23), none⟩, ⟨(K42c3 x29), none⟩, ⟨(K42c4 x35), none⟩] [⟨ak, x40.length, al, 120, 3, (ag ++ ([.int .i64 x23.due, .int .i64 x29.work, .int .i64 x35.cost] : List Value)), bo⟩, ⟨ap, 1, 1, 120, 3, ([.int .i64 x23.due, .int .i64 x29.work, .int .i64 x35.cost] : List Value), 0⟩] ei) => ?_
     have cc : Cells ad x40 (ag ++ ([.int .i64 x23.due, .int .i64 x29.work, .int .i64 x35.cost] : List Value)) := by rw [bi]; exact Cells.append bp a4
     obtain rfl : bo = 0 := Nat.le_zero.1 cg
     refine hK _ _ a9.plOk ?_
     refine Dr [23] (dn 23) ((tP 41 2 0) :: (tS 40 ak x40.length al) :: (tI 4 x_v11) :: (tP 3 2 0) :: K42m11) cl a9 fun d7 cm => ?_
     refine D_sync 24 rfl (by kernel_rfl) (by decide) (rfl) (by kernel_rfl) fun K hK => ?_
     refine wst 2 0 (.c (.slice ak x40.length al)) [.slice ak x40.length al, .int .i64 s.days, .slice l x9.length p] cm a9 fun ej cn (bu : Mem ⟨w, h, noX⟩ ad (K42e8 a d m ab ac x_v11 ae af ah ai) [⟨(K42c7 g s k e f), some 74⟩, ⟨K42c1, some 79⟩, ⟨[.slice ak x40.length al, .int .i64 s.days, .slice l x9.length p], some 79⟩, ⟨(K42c2 x23), none⟩, ⟨(K42c3 x29), none⟩, ⟨(K42c4 x35), none⟩] [⟨ak, x40.length, al, 120, 3, (ag ++ ([.int .i64 x23.due, .int .i64 x29.work, .int .i64 x35.cost] : List Value)), 0⟩, ⟨ap, 1, 1, 120, 3, ([.int .i64 x23.due, .int .i64 x29.work, .int .i64 x35.cost] : List Value), 0⟩] ej) => hK _ _ ?_
     have co : Kn 43 (K42e8 a d m ab ac x_v11 ae af ah ai) ((tI 4 x_v11) :: (tP 3 2 0) :: K42m11) d7 := cn.kp
     refine wpG_end (by kernel_rfl) (wp_region_from (Rk 0 3 ((tI 4 (IntKind.i64.wrap (x_v11 + 1))) :: (tP 3 2 0) :: K42m11) co bu fun et cp => ?_))
     refine wf ?_
     exact Exists.intro bj ⟨Nat.lt_succ_self _, Exists.intro x40 ⟨(IntKind.i64.wrap (x_v11 + 1)), ak, al, (ag ++ ([.int .i64 x23.due, .int .i64 x29.work, .int .i64 x35.cost] : List Value)), _, _, rfl, ((cp.keep [4, 3, 2, 1] (by rfl)).cut 3 (by kernel_rfl)), ((bu.cutRw 1).cutPl 3 (by kernel_rfl)), a7, cc, aa⟩⟩
    ·
     rw [a3, cond_false] at aa
     refine wp_exit ?_
     obtain rfl := Option.some.inj aa
     exact Exists.intro q ⟨u, ag, _, _, rfl, a6.kp, am, a7, bp⟩
  ·
   rintro _ e3 ⟨y, z, ao, bk, av, rfl, cq, bv, df, a5⟩
   refine wp_seq (wp_region_from (Rk 0 1 [(tA 42 (K42c6 y x z s l x9 p)), (tP 2 1 0)] cq bv fun d8 cr => ?_))
   refine wl fun K hK => ?_
   refine wst 1 0 (.agg (K42c6 y x z s l x9 p)) (K42c6 y x z s l x9 p) cr bv fun b3 ct (bw : Mem ⟨w, h, noX⟩ av [(a, 0), (d, 0), (m, 0)] [⟨(K42c7 g s k e f), some 74⟩, ⟨(K42c6 y x z s l x9 p), some 79⟩, ⟨(K42c6 y x z s l x9 p), some 79⟩] [⟨y, x.length, z, 120, 3, ao, 0⟩] b3) => hK _ _ ?_
   have cu : Kn 43 [(a, 0), (d, 0), (m, 0)] [(tP 2 1 0)] d8 := ct.kp
   refine wf (wp_ret ?_)
   obtain ⟨a2, br, dw, ba⟩ := bw.settle (i := 0) rfl
   replace bh := bh.mono (Heap.le_trans df br)
   replace a5 := a5.mono br
   replace ba : Mem ⟨w, h, noX⟩ a2 [(a, 0), (d, 0), (m, 0)] [⟨(K42c7 g s k e f), some 74⟩, ⟨(K42c6 y x z s l x9 p), some 79⟩, ⟨(K42c6 y x z s l x9 p), some 79⟩] [⟨y, x.length, z, 120, 3, ao, (ao : List Value).length⟩] b3 := ba
   have dt : RepS a2 y z x := ⟨_, a5, dw, bw.rowCap (i := 0) rfl⟩
   obtain rfl := Option.some.inj H
   exact rt (.one (.agg (K42c6 y x z s l x9 p))) cu ba ⟨_, rfl, ((rep_pair (rep_slice dt) (rep_pair rep_int (rep_slice bh))) : rep a2 ((Shop.mk x s.days x9) : Shop) _)⟩
 refine D_two 4 6 rfl rfl (by kernel_rfl) (by decide) (rfl) (rfl) (fun K hK => ?_) (fun K hK => ?_)
 ·
  refine wc [.c (.slice e s.pits.length f)] bq be (law_list_ok n be.has s.pits a0 ex9) fun e1 b7 e4 b5 dg bb => ?_
  obtain ⟨aq, au, rfl, du⟩ := b5
  refine ⟨.one (.c (.slice aq x9.length au)), rfl, fun d9 (cw : Kn 43 [(a, 0), (d, 0), (0, 0)] ((tS 9 aq x9.length au) :: (tS 8 e s.pits.length f) :: (tI 6 s.days) :: K42m11) d9) => hK _ _ bb.plOk ?_⟩
  refine Dr [5] (dn 5) ((tA 10 [.slice none 0 0, .int .i64 s.days, .slice aq x9.length au]) :: K42m11) cw bb fun eu cx => ?_
  refine Dl 6 fun K hK => ?_
  refine waA 2 K42c1 cx bb fun ax ea ek (cy : Kn 43 [(a, 0), (d, 0), (ax, 0)] ((tP 3 2 0) :: (tA 10 [.slice none 0 0, .int .i64 s.days, .slice aq x9.length au]) :: K42m11) ea) (bx : Mem ⟨w, h, noX⟩ b7 [(a, 0), (d, 0), (ax, 0)] (K42p9 g s k e f) [] ek) => hK _ _ (PlOk.unset 2 rfl (by kernel_rfl) bx.plOk) (D_ext (e' := [(a, 0), (d, 0), (ax, 0)]) (pl' := (K42p9 g s k e f)) (fun _ hp => hp.unset 2 rfl (by kernel_rfl)) ?_)
  refine D_perm [5, 4, 6, 3, 2, 1, 0] (by kernel_rfl) (by rfl) (b0 ax aq au _ _ ?_)
  exact Exists.intro _ ⟨_, rfl, cy.kp, bx, dg, du⟩
 ·
  refine waA 2 K42c1 bq be fun ar eb el (c0 : Kn 43 [(a, 0), (d, 0), (ar, 0)] ((tP 3 2 0) :: (tS 8 e s.pits.length f) :: (tI 6 s.days) :: K42m11) eb) (bc : Mem ⟨w, h, noX⟩ h [(a, 0), (d, 0), (ar, 0)] (K42p9 g s k e f) [] el) => hK _ _ (PlOk.unset 2 rfl (by kernel_rfl) bc.plOk) (D_ext (e' := [(a, 0), (d, 0), (ar, 0)]) (pl' := (K42p9 g s k e f)) (fun _ hp => hp.unset 2 rfl (by kernel_rfl)) ?_)
  refine Dl 4 fun K hK => ?_
  refine wc [.c (.slice e s.pits.length f)] c0 bc (law_list_ok n bc.has s.pits a0 ex9) fun e2 er e5 b6 dh bd => ?_
  obtain ⟨aw, ay, rfl, dv⟩ := b6
  refine ⟨.one (.c (.slice aw x9.length ay)), rfl, fun ed (c1 : Kn 43 [(a, 0), (d, 0), (ar, 0)] ((tS 9 aw x9.length ay) :: (tP 3 2 0) :: (tS 8 e s.pits.length f) :: (tI 6 s.days) :: K42m11) ed) => hK _ _ bd.plOk ?_⟩
  refine Dr [5] [5, 4, 6, 3, 2, 1, 0] ((tA 10 [.slice none 0 0, .int .i64 s.days, .slice aw x9.length ay]) :: (tP 3 2 0) :: K42m11) c1 bd fun ev c2 => ?_
  refine D_perm [5, 4, 6, 3, 2, 1, 0] (by kernel_rfl) (by rfl) (b0 ar aw ay _ _ ?_)
  exact Exists.intro _ ⟨_, rfl, c2.kp, bd, dh, dv⟩
abbrev K43c1 (x46 : Job) : List SC := [.int .i64 x46.due, .int .i64 x46.work, .int .i64 x46.cost]
abbrev K43e2 (a i k : Nat) (x_v20 : Int) (m : Nat) : Env := [(a, 0), (i, k + (x_v20 : Int).toNat * 3), (m, 0)]
abbrev K43c3 (d : Option Addr) (s : Shop) (f : Nat) (e : Option Addr) (g : Nat) : List SC := [.slice d s.buses.length f, .int .i64 s.days, .slice e s.pits.length g]
abbrev K43m4 (x_v20 : Int) : TM := [(tI 4 x_v20), (tP 1 0 0)]
set_option maxRecDepth 100000 in
set_option maxHeartbeats 4000000 in
theorem ref_ShopFault_ok (n : Nat) {h : Heap} {w : World} (hh : Has h w) (s : Shop) {cs_s : List Value} (hx_s : rep h s cs_s) {r : Int} (H : ref_ShopFault n s = some r) :
  Calls Try.prog 43 #[.agg cs_s.toArray] w (Ret (fun h v => v = .int .i64 r) h w) := by
 obtain ⟨_, _, rfl, ⟨d, f, rfl, o⟩, ⟨_, _, rfl, rfl, ⟨e, g, rfl, p⟩⟩⟩ := hx_s
 refine enter 64 [.agg (K43c3 d s f e g)] Try.func43 rfl rfl rfl rfl fun t hk => ?_
 have hm := Mem.begin h w hh
 unfold ref_ShopFault at H
 refine wp_seq (wp_region_from (wl fun K hK => ?_))
 refine wb (.agg (K43c3 d s f e g)) hk hm fun a d3 ea (ce : Kn 64 [(a, 0)] [(tP 1 0 0), (tA 0 (K43c3 d s f e g))] d3) (q : Mem ⟨w, h, noX⟩ h [(a, 0)] [⟨(K43c3 d s f e g), some 74⟩] [] ea) => hK _ _ ?_
 refine Rk 1 1 [(tP 1 0 0)] ce q fun ek cj => ?_
 refine wf (wp_seq (wp_seq (wp_region_from (Rk 0 4 [(tB 9 (decide (((s.buses.length : Nat) : Int) > 8))), (tP 1 0 0)] cj q fun eo a1 => ?_))))
 refine wf (wC (decide (((s.buses.length : Nat) : Int) > 8)) a1 (fun av => ?_) (fun av => ?_))
 ·
  rw [av, cond_true] at H
  refine wp_seq (wp_region_from (Rk 0 1 [(tI 2 3)] a1 q fun eu cw => ?_))
  refine wf (wp_ret ?_)
  obtain rfl := Option.some.inj H
  exact rt (.one (.c (.int .i64 3))) cw q rfl
 ·
  rw [av, cond_false] at H
  refine wp_skip (wp_seq (wp_seq ?_))
  obtain ⟨bw, y, H⟩ := bnd H
  refine wp_mid' (fun a' w' => ∃ (bd : Array Value) (ab : Heap), a' = ⟨bd, []⟩ ∧ Kn 64 [(a, 0)] [(tP 1 0 0), (tB 21 bw)] bd ∧ Mem ⟨w, h, noX⟩ ab [(a, 0)] [⟨(K43c3 d s f e g), some 74⟩] [] w' ∧ Heap.le h ab) ?_ ?_
  ·
   refine wp_region_from (Rk 0 2 [(tI 11 s.days), (tP 1 0 0)] a1 q fun e2 c5 => ?_)
   obtain ⟨x12, ex12, y⟩ := bnd y
   refine wl fun K hK => ?_
   refine wc [.c (.int .i64 s.days), .c (.int .i64 1), .c (.int .i64 14)] c5 q (ref_In_ok n q.has s.days 1 14 ex12) fun fg eg fm b8 bq ah => ?_
   obtain rfl := b8
   refine ⟨.one (.c (.bool x12)), rfl, fun d2 (c6 : Kn 64 [(a, 0)] [(tB 12 x12), (tI 11 s.days), (tP 1 0 0)] d2) => hK _ _ ?_⟩
   refine Rk 3 2 [(tB 14 (!x12)), (tP 1 0 0)] c6 ah fun b4 bo => ?_
   rcases Bool.eq_false_or_eq_true ((!x12)) with af | af
   ·
    rw [af, cond_true] at y
    have c7 : Kn 64 [(a, 0)] [(tB 14 true), (tP 1 0 0)] b4 := (bo.setB 14 true (by rfl) af).kp
    refine Rk 5 7 [(tB 21 true), (tP 1 0 0)] c7 ah fun e3 c8 => ?_
    refine wf ?_
    obtain rfl := Option.some.inj y
    exact Exists.intro _ ⟨_, rfl, c8.kp, ah, bq⟩
   ·
    rw [af, cond_false] at y
    have c9 : Kn 64 [(a, 0)] [(tB 14 false), (tP 1 0 0)] b4 := (bo.setB 14 false (by rfl) af).kp
    refine Rk 5 7 [(tB 21 (((s.pits.length : Nat) : Int) != s.days)), (tP 1 0 0)] c9 ah fun e4 da => ?_
    refine wf ?_
    obtain rfl := Option.some.inj y
    exact Exists.intro _ ⟨_, rfl, da.kp, ah, bq⟩
  ·
   rintro _ fn ⟨bd, ab, rfl, a3, an, br⟩
   replace o := o.mono br
   replace p := p.mono br
   refine wC (bw) a3 (fun ax => ?_) (fun ax => ?_)
   ·
    rw [ax, cond_true] at H
    refine wp_seq (wp_region_from (Rk 0 1 [(tI 2 1)] a3 an fun e5 db => ?_))
    refine wf (wp_ret ?_)
    obtain rfl := Option.some.inj H
    exact rt (.one (.c (.int .i64 1))) db an rfl
   ·
    rw [ax, cond_false] at H
    refine wp_skip (wp_seq (wp_seq (wp_region_from (Rk 0 1 [(tI 3 0), (tP 1 0 0)] a3 an fun e6 dc => ?_))))
    refine wf ?_
    obtain ⟨bx, bh, H⟩ := bnd H
    refine wp_mid' (fun a' w' => ∃ (b0 : Unit) (be : Array Value) (ac : Heap), a' = ⟨be, []⟩ ∧ Kn 64 [(a, 0)] [(tP 1 0 0)] be ∧ Mem ⟨w, h, noX⟩ ac [(a, 0)] [⟨(K43c3 d s f e g), some 74⟩] [] w' ∧ Heap.le ab ac ∧ bx = .go b0) ?_ ?_
    ·
     refine wp_block ?_
     refine wp_loop_n (fun dx a' w' => ∃ (x_v10 : Int) (bf : Array Value) (aj : Heap), a' = ⟨bf, []⟩ ∧ Kn 64 [(a, 0)] [(tI 3 x_v10), (tP 1 0 0)] bf ∧ Mem ⟨w, h, noX⟩ aj [(a, 0)] [⟨(K43c3 d s f e g), some 74⟩] [] w' ∧ Heap.le ab aj ∧ ref_ShopFault_l1 dx s x_v10 = some bx) n ?_ ?_
     ·
      exact Exists.intro 0 ⟨_, _, rfl, dc.kp, an, (Heap.le_refl _), bh⟩
     ·
      rintro ap _ d9 ⟨x_v10, bf, aj, rfl, dd, ao, al, l⟩
      clear bh
      obtain _ | ap := ap
      ·
       rw [ref_ShopFault_l1] at l; cases l
      rw [ref_ShopFault_l1] at l
      replace o := o.mono al
      replace p := p.mono al
      refine wp_seq (wp_seq (wp_region_from (Rk 0 5 [(tB 26 (decide (x_v10 < ((s.pits.length : Nat) : Int)))), (tI 3 x_v10), (tP 1 0 0)] dd ao fun e7 a4 => ?_)))
      refine wf (wC (decide (x_v10 < ((s.pits.length : Nat) : Int))) a4 (fun ay => ?_) (fun ay => ?_))
      ·
       rw [ay, cond_true] at l
       refine wp_skip (wp_seq (wp_block (wp_seq (wp_region_from (Rk 0 3 [(tI 31 x_v10), (tS 30 e s.pits.length g), (tI 3 x_v10), (tP 1 0 0)] a4 ao fun e8 de => ?_)))))
       obtain ⟨x32, ex32, l⟩ := bnd l
       obtain ⟨dp, dr, dv⟩ := idx_some ex32
       obtain ⟨aq, ba, ec, cb, dt, cd⟩ := p.get (by decide) dv
       obtain rfl := dt
       have a9 : Mem ⟨w, h, noX⟩ aj [(a, 0), (aq, ba + (x_v10 : Int).toNat * 1)] [⟨(K43c3 d s f e g), some 74⟩, ⟨[.int .i64 x32], none⟩] [] d9 := ao.addPlc (cs := [.int .i64 x32]) (fun j c hj => cd j _ (map_get hj)) rfl (by kernel_rfl) (by kernel_rfl)
       refine R_index 3 (x_v10) rfl rfl (rfl) rfl (by decide) de (by rfl) (by rfl) (by rfl) cb (by rfl) dp dr (by kernel_rfl) fun d4 (df : Kn 64 [(a, 0), (aq, ba + (x_v10 : Int).toNat * 1)] [(tP 32 1 0), (tI 31 x_v10), (tS 30 e s.pits.length g), (tI 3 x_v10), (tP 1 0 0)] d4) => ?_
       refine Rk 4 1 [(tI 33 x32), (tI 3 x_v10), (tP 1 0 0)] df a9 fun e9 dg => ?_
       obtain ⟨x34, ex34, l⟩ := bnd l
       refine wl fun K hK => ?_
       refine wc [.c (.int .i64 x32), .c (.int .i64 0), .c (.int .i64 160)] dg a9 (ref_In_ok ap a9.has x32 0 160 ex34) fun fh eh fo b9 dl ai => ?_
       obtain rfl := b9
       refine ⟨.one (.c (.bool x34)), rfl, fun d5 (dh : Kn 64 [(a, 0), (aq, ba + (x_v10 : Int).toNat * 1)] [(tB 34 x34), (tI 33 x32), (tI 3 x_v10), (tP 1 0 0)] d5) => hK _ _ ?_⟩
       refine Rk 6 1 [(tB 35 (!x34)), (tI 3 x_v10), (tP 1 0 0)] dh ai fun fa a5 => ?_
       refine wf (wC ((!x34)) a5 (fun az => ?_) (fun az => ?_))
       ·
        rw [az, cond_true] at l
        refine wp_seq (wp_region_from (Rk 0 1 [(tI 2 1)] a5 ai fun fb di => ?_))
        refine wf (wp_ret ?_)
        obtain rfl := Option.some.inj l
        obtain rfl := Option.some.inj H
        exact rt (.one (.c (.int .i64 1))) di ai rfl
       ·
        rw [az, cond_false] at l
        refine wp_skip (wp_region_from (Rk 0 3 [(tI 3 (IntKind.i64.wrap (x_v10 + 1))), (tP 1 0 0)] a5 ai fun fc dj => ?_))
        refine wf ?_
        exact Exists.intro ap ⟨Nat.lt_succ_self _, Exists.intro (IntKind.i64.wrap (x_v10 + 1)) ⟨_, _, rfl, ((dj.keep [3, 1] (by rfl)).cut 1 (by kernel_rfl)), (ai.cutPl 1 (by kernel_rfl)), (Heap.le_trans al dl), l⟩⟩
      ·
       rw [ay, cond_false] at l
       refine wp_exit ?_
       obtain rfl := Option.some.inj l
       exact Exists.intro () ⟨_, _, rfl, a4.kp, ao, al, rfl⟩
    ·
     rintro _ fp ⟨b0, be, ac, rfl, cf, bs, bp, rfl⟩
     rw [Ex.bind_go] at H
     replace o := o.mono bp
     replace p := p.mono bp
     refine wp_seq (wp_seq (wp_region_from (Rk 0 1 [(tI 4 0), (tP 1 0 0)] cf bs fun ej cg => ?_)))
     refine wf ?_
     obtain ⟨bv, bg, H⟩ := bnd H
     refine wp_mid' (fun a' w' => ∃ (bz : Unit) (bb : Array Value) (ar : Heap), a' = ⟨bb, []⟩ ∧ Kn 64 [(a, 0)] [] bb ∧ Mem ⟨w, h, noX⟩ ar [(a, 0)] [⟨(K43c3 d s f e g), some 74⟩] [] w' ∧ Heap.le ac ar ∧ bv = .go bz) ?_ ?_
     ·
      refine wp_block ?_
      refine wp_loop_n (fun dw a' w' => ∃ (x_v20 : Int) (bc : Array Value) (z : Heap), a' = ⟨bc, []⟩ ∧ Kn 64 [(a, 0)] (K43m4 x_v20) bc ∧ Mem ⟨w, h, noX⟩ z [(a, 0)] [⟨(K43c3 d s f e g), some 74⟩] [] w' ∧ Heap.le ac z ∧ ref_ShopFault_l2 dw s x_v20 = some bv) n ?_ ?_
      ·
       exact Exists.intro 0 ⟨_, _, rfl, cg.kp, bs, (Heap.le_refl _), bg⟩
      ·
       rintro aa _ d6 ⟨x_v20, bc, z, rfl, ch, am, ak, b⟩
       clear bg
       obtain _ | aa := aa
       ·
        rw [ref_ShopFault_l2] at b; cases b
       rw [ref_ShopFault_l2] at b
       replace o := o.mono ak
       replace p := p.mono ak
       refine wp_seq (wp_seq (wp_region_from (Rk 0 5 ((tB 40 (decide (x_v20 < ((s.buses.length : Nat) : Int)))) :: (K43m4 x_v20)) ch am fun el a0 => ?_)))
       refine wf (wC (decide (x_v20 < ((s.buses.length : Nat) : Int))) a0 (fun au => ?_) (fun au => ?_))
       ·
        rw [au, cond_true] at b
        refine wp_skip (wp_seq (wp_block (wp_seq (wp_region_from (Rk 0 3 ((tI 45 x_v20) :: (tS 44 d s.buses.length f) :: (K43m4 x_v20)) a0 am fun em ci => ?_)))))
        obtain ⟨x46, ex46, b⟩ := bnd b
        obtain ⟨dn, dq, du⟩ := idx_some ex46
        obtain ⟨i, k, eb, ca, ds, cc⟩ := o.get (by decide) du
        obtain ⟨_, _, rfl, rfl, ⟨_, _, rfl, rfl, rfl⟩⟩ := ds
        have bt : Mem ⟨w, h, noX⟩ z [(a, 0), (i, k + (x_v20 : Int).toNat * 3)] [⟨(K43c3 d s f e g), some 74⟩, ⟨(K43c1 x46), none⟩] [] d6 := am.addPlc (cs := (K43c1 x46)) (fun j c hj => cc j _ (map_get hj)) rfl (by kernel_rfl) (by kernel_rfl)
        refine R_index 3 (x_v20) rfl rfl (rfl) rfl (by decide) ci (by rfl) (by rfl) (by rfl) ca (by rfl) dn dq (by kernel_rfl) fun dy (ck : Kn 64 [(a, 0), (i, k + (x_v20 : Int).toNat * 3)] ((tP 46 1 0) :: (tI 45 x_v20) :: (tS 44 d s.buses.length f) :: (K43m4 x_v20)) dy) => ?_
        refine Rk 4 1 ((tA 47 (K43c1 x46)) :: (K43m4 x_v20)) ck bt fun en cl => ?_
        refine wl fun K hK => ?_
        refine wa [.int .i64 0, .int .i64 0, .int .i64 0] cl bt fun m b1 d7 (cm : Kn 64 (K43e2 a i k x_v20 m) ((tP 5 2 0) :: (tA 47 (K43c1 x46)) :: (K43m4 x_v20)) b1) (dm : Mem ⟨w, h, noX⟩ z (K43e2 a i k x_v20 m) [⟨(K43c3 d s f e g), some 74⟩, ⟨(K43c1 x46), none⟩, ⟨[.int .i64 0, .int .i64 0, .int .i64 0], some 94⟩] [] d7) => hK _ _ ?_
        refine wl fun K hK => ?_
        refine wst 2 0 (.agg (K43c1 x46)) (K43c1 x46) cm dm fun d8 cn (a8 : Mem ⟨w, h, noX⟩ z (K43e2 a i k x_v20 m) [⟨(K43c3 d s f e g), some 74⟩, ⟨(K43c1 x46), none⟩, ⟨(K43c1 x46), some 94⟩] [] d8) => hK _ _ ?_
        have co : Kn 64 (K43e2 a i k x_v20 m) ((tP 5 2 0) :: (K43m4 x_v20)) b1 := cn.kp
        refine wf (wp_seq (wp_region_from (Rk 0 2 ((tI 49 x46.due) :: (tP 5 2 0) :: (K43m4 x_v20)) co a8 fun ep cp => ?_)))
        obtain ⟨x50, ex50, b⟩ := bnd b
        refine wl fun K hK => ?_
        refine wc [.c (.int .i64 x46.due), .c (.int .i64 0), .c (.int .i64 14)] cp a8 (ref_In_ok aa a8.has x46.due 0 14 ex50) fun fd ed fi b5 a6 u => ?_
        replace o := o.mono a6
        replace p := p.mono a6
        obtain rfl := b5
        refine ⟨.one (.c (.bool x50)), rfl, fun dz (cq : Kn 64 (K43e2 a i k x_v20 m) ((tB 50 x50) :: (tI 49 x46.due) :: (tP 5 2 0) :: (K43m4 x_v20)) dz) => hK _ _ ?_⟩
        refine Rk 3 2 ((tB 52 (!x50)) :: (tP 5 2 0) :: (K43m4 x_v20)) cq u fun b2 bi => ?_
        rcases Bool.eq_false_or_eq_true ((!x50)) with ad | ad
        ·
         rw [ad, cond_true] at b
         have cr : Kn 64 (K43e2 a i k x_v20 m) ((tB 52 true) :: (tP 5 2 0) :: (K43m4 x_v20)) b2 := (bi.setB 52 true (by rfl) ad).kp
         refine Rk 5 11 ((tB 63 true) :: (K43m4 x_v20)) cr u fun er bj => ?_
         refine wf (wC true bj (fun hb => ?_) (fun hb => ?_))
         rotate_left
         ·
          cases hb
         refine wp_seq (wp_region_from (Rk 0 1 [(tI 2 1)] bj u fun es ct => ?_))
         refine wf (wp_ret ?_)
         obtain rfl := Option.some.inj b
         obtain rfl := Option.some.inj H
         exact rt (.one (.c (.int .i64 1))) ct u rfl
        ·
         rw [ad, cond_false] at b
         have cu : Kn 64 (K43e2 a i k x_v20 m) ((tB 52 false) :: (tP 5 2 0) :: (K43m4 x_v20)) b2 := (bi.setB 52 false (by rfl) ad).kp
         refine Rk 5 2 ((tI 54 x46.work) :: (tB 52 false) :: (tP 5 2 0) :: (K43m4 x_v20)) cu u fun et bk => ?_
         obtain ⟨x55, ex55, b⟩ := bnd b
         refine wpFrom_loud _ rfl (wantedS_sound bk (by kernel_rfl)) fun K hK => ?_
         refine wc [.c (.int .i64 x46.work), .c (.int .i64 1), .c (.int .i64 20)] bk u (ref_In_ok aa u.has x46.work 1 20 ex55) fun fe ee fj b6 a7 x => ?_
         replace o := o.mono a7
         replace p := p.mono a7
         obtain rfl := b6
         refine ⟨.one (.c (.bool x55)), rfl, fun d0 (cv : Kn 64 (K43e2 a i k x_v20 m) ((tB 55 x55) :: (tI 54 x46.work) :: (tB 52 false) :: (tP 5 2 0) :: (K43m4 x_v20)) d0) => hK _ _ ?_⟩
         refine Rk 8 3 ((tB 58 (!x55)) :: (tP 5 2 0) :: (K43m4 x_v20)) cv x fun b3 bl => ?_
         rcases Bool.eq_false_or_eq_true ((!x55)) with ae | ae
         ·
          rw [ae, cond_true] at b
          have cx : Kn 64 (K43e2 a i k x_v20 m) ((tB 58 true) :: (tP 5 2 0) :: (K43m4 x_v20)) b3 := (bl.setB 58 true (by rfl) ae).kp
          refine Rk 11 5 ((tB 63 true) :: (K43m4 x_v20)) cx x fun ev bm => ?_
          refine wf (wC true bm (fun hb => ?_) (fun hb => ?_))
          rotate_left
          ·
           cases hb
          refine wp_seq (wp_region_from (Rk 0 1 [(tI 2 1)] bm x fun ew cy => ?_))
          refine wf (wp_ret ?_)
          obtain rfl := Option.some.inj b
          obtain rfl := Option.some.inj H
          exact rt (.one (.c (.int .i64 1))) cy x rfl
         ·
          rw [ae, cond_false] at b
          have cz : Kn 64 (K43e2 a i k x_v20 m) ((tB 58 false) :: (tP 5 2 0) :: (K43m4 x_v20)) b3 := (bl.setB 58 false (by rfl) ae).kp
          refine Rk 11 2 ((tI 60 x46.cost) :: (tB 58 false) :: (K43m4 x_v20)) cz x fun ex bn => ?_
          obtain ⟨x61, ex61, b⟩ := bnd b
          refine wpFrom_loud _ rfl (wantedS_sound bn (by kernel_rfl)) fun K hK => ?_
          refine wc [.c (.int .i64 x46.cost), .c (.int .i64 0), .c (.int .i64 1000)] bn x (ref_In_ok aa x.has x46.cost 0 1000 ex61) fun ff ef fk b7 dk ag => ?_
          obtain rfl := b7
          refine ⟨.one (.c (.bool x61)), rfl, fun d1 (c0 : Kn 64 (K43e2 a i k x_v20 m) ((tB 61 x61) :: (tI 60 x46.cost) :: (tB 58 false) :: (K43m4 x_v20)) d1) => hK _ _ ?_⟩
          refine Rk 14 2 ((tB 63 (!x61)) :: (K43m4 x_v20)) c0 ag fun ey a2 => ?_
          refine wf (wC ((!x61)) a2 (fun aw => ?_) (fun aw => ?_))
          ·
           rw [aw, cond_true] at b
           refine wp_seq (wp_region_from (Rk 0 1 [(tI 2 1)] a2 ag fun ez c1 => ?_))
           refine wf (wp_ret ?_)
           obtain rfl := Option.some.inj b
           obtain rfl := Option.some.inj H
           exact rt (.one (.c (.int .i64 1))) c1 ag rfl
          ·
           rw [aw, cond_false] at b
           refine wp_skip (wp_region_from (Rk 0 3 [(tI 4 (IntKind.i64.wrap (x_v20 + 1))), (tP 1 0 0)] a2 ag fun e0 c2 => ?_))
           refine wf ?_
           exact Exists.intro aa ⟨Nat.lt_succ_self _, Exists.intro (IntKind.i64.wrap (x_v20 + 1)) ⟨_, _, rfl, ((c2.keep [4, 1] (by rfl)).cut 1 (by kernel_rfl)), (ag.cutPl 1 (by kernel_rfl)), (Heap.le_trans ak (Heap.le_trans a6 (Heap.le_trans a7 dk))), b⟩⟩
       ·
        rw [au, cond_false] at b
        refine wp_exit ?_
        obtain rfl := Option.some.inj b
        exact Exists.intro () ⟨_, _, rfl, a0.kp, am, ak, rfl⟩
     ·
      rintro _ fl ⟨bz, bb, ar, rfl, c3, bu, ei, rfl⟩
      rw [Ex.bind_go] at H
      refine wp_seq (wp_region_from (Rk 0 1 [(tI 2 0)] c3 bu fun e1 c4 => ?_))
      refine wf (wp_ret ?_)
      obtain rfl := Option.some.inj H
      exact rt (.one (.c (.int .i64 0))) c4 bu rfl
abbrev K45c1 (b : Option Addr) (s : Shop) (e : Nat) (d : Option Addr) (f : Nat) : List SC := [.slice b s.buses.length e, .int .i64 s.days, .slice d s.pits.length f]
abbrev K45m2 (x_v10 x_v11 : Int) : TM := [(tI 4 x_v10), (tI 3 x_v11), (tP 1 0 0)]
set_option maxRecDepth 100000 in
set_option maxHeartbeats 4000000 in
theorem law_Few_ok (n : Nat) {h : Heap} {w : World} (hh : Has h w) (s : Shop) {cs_s : List Value} (hx_s : rep h s cs_s) {r : Bool} (H : law_Few n s = some r) :
  Calls Try.prog 45 #[.agg cs_s.toArray] w (Ret (fun h v => v = .bool r) h w) := by
 obtain ⟨_, _, rfl, ⟨b, e, rfl, x⟩, ⟨_, _, rfl, rfl, ⟨d, f, rfl, y⟩⟩⟩ := hx_s
 refine enter 38 [.agg (K45c1 b s e d f)] Try.func45 rfl rfl rfl rfl fun t hk => ?_
 have hm := Mem.begin h w hh
 unfold law_Few at H
 refine wp_seq (wp_region_from (wl fun K hK => ?_))
 refine wb (.agg (K45c1 b s e d f)) hk hm fun a bu bv (a5 : Kn 38 [(a, 0)] [(tP 1 0 0), (tA 0 (K45c1 b s e d f))] bu) (k : Mem ⟨w, h, noX⟩ h [(a, 0)] [⟨(K45c1 b s e d f), some 74⟩] [] bv) => hK _ _ ?_
 refine Rk 1 1 [(tP 1 0 0)] a5 k fun bz a6 => ?_
 refine wf (wp_seq (wp_seq ?_))
 obtain ⟨az, z, H⟩ := bnd H
 refine wp_mid' (fun a' w' => ∃ (ak : Array Value) (l : Heap), a' = ⟨ak, []⟩ ∧ Kn 38 [(a, 0)] [(tP 1 0 0), (tB 14 az)] ak ∧ Mem ⟨w, h, noX⟩ l [(a, 0)] [⟨(K45c1 b s e d f), some 74⟩] [] w' ∧ Heap.le h l) ?_ ?_
 ·
  refine wp_region_from (Rk 0 5 [(tB 9 (decide (((s.buses.length : Nat) : Int) > 12))), (tP 1 0 0)] a6 k fun a1 ap => ?_)
  rcases Bool.eq_false_or_eq_true (decide (((s.buses.length : Nat) : Int) > 12)) with o | o
  ·
   rw [o, cond_true] at z
   have a7 : Kn 38 [(a, 0)] [(tB 9 true), (tP 1 0 0)] a1 := (ap.setB 9 true (by rfl) o).kp
   refine Rk 5 5 [(tB 14 true), (tP 1 0 0)] a7 k fun b0 a8 => ?_
   refine wf ?_
   obtain rfl := Option.some.inj z
   exact Exists.intro _ ⟨_, rfl, a8.kp, k, (Heap.le_refl _)⟩
  ·
   rw [o, cond_false] at z
   have a9 : Kn 38 [(a, 0)] [(tB 9 false), (tP 1 0 0)] a1 := (ap.setB 9 false (by rfl) o).kp
   refine Rk 5 5 [(tB 14 (decide (((s.pits.length : Nat) : Int) > 20))), (tP 1 0 0)] a9 k fun b1 ba => ?_
   refine wf ?_
   obtain rfl := Option.some.inj z
   exact Exists.intro _ ⟨_, rfl, ba.kp, k, (Heap.le_refl _)⟩
 ·
  rintro _ cd ⟨ak, l, rfl, ai, u, av⟩
  replace x := x.mono av
  replace y := y.mono av
  refine wC (az) ai (fun ag => ?_) (fun ag => ?_)
  ·
   rw [ag, cond_true] at H
   refine wp_seq (wp_region_from (Rk 0 1 [(tB 2 false)] ai u fun b2 bb => ?_))
   refine wf (wp_ret ?_)
   obtain rfl := Option.some.inj H
   exact rt (.one (.c (.bool false))) bb u rfl
  ·
   rw [ag, cond_false] at H
   refine wp_skip (wp_seq (wp_region_from (Rk 0 1 [(tI 3 1), (tP 1 0 0)] ai u fun b3 bc => ?_)))
   refine wf (wp_seq (wp_seq (wp_region_from (Rk 0 1 [(tI 4 0), (tI 3 1), (tP 1 0 0)] bc u fun b4 bd => ?_))))
   refine wf ?_
   obtain ⟨ad, ao, H⟩ := bnd H
   refine wp_mid' (fun a' w' => ∃ (al : Array Value) (ae : Heap), a' = ⟨al, []⟩ ∧ Kn 38 [(a, 0)] [(tI 3 ad)] al ∧ Mem ⟨w, h, noX⟩ ae [(a, 0)] [⟨(K45c1 b s e d f), some 74⟩] [] w' ∧ Heap.le l ae) ?_ ?_
   ·
    refine wp_block ?_
    refine wp_loop_n (fun bs a' w' => ∃ (x_v10 : Int) (x_v11 : Int) (am : Array Value) (m : Heap), a' = ⟨am, []⟩ ∧ Kn 38 [(a, 0)] (K45m2 x_v10 x_v11) am ∧ Mem ⟨w, h, noX⟩ m [(a, 0)] [⟨(K45c1 b s e d f), some 74⟩] [] w' ∧ Heap.le l m ∧ law_Few_l1 bs s x_v10 x_v11 = some ad) n ?_ ?_
    ·
     exact Exists.intro 0 ⟨1, _, _, rfl, bd.kp, u, (Heap.le_refl _), ao⟩
    ·
     rintro ac _ ce ⟨x_v10, x_v11, am, m, rfl, be, j, aa, i⟩
     clear ao
     obtain _ | ac := ac
     ·
      rw [law_Few_l1] at i; cases i
     rw [law_Few_l1] at i
     replace x := x.mono aa
     replace y := y.mono aa
     refine wp_seq (wp_seq ?_)
     obtain ⟨a0, g, i⟩ := bnd i
     refine wp_mid' (fun a' w' => ∃ (an : Array Value) (af : Heap), a' = ⟨an, []⟩ ∧ Kn 38 [(a, 0)] [(tI 4 x_v10), (tI 3 x_v11), (tP 1 0 0), (tB 28 a0)] an ∧ Mem ⟨w, h, noX⟩ af [(a, 0)] [⟨(K45c1 b s e d f), some 74⟩] [] w' ∧ Heap.le m af) ?_ ?_
     ·
      refine wp_region_from (Rk 0 6 ((tB 20 (decide (x_v10 < ((s.buses.length : Nat) : Int)))) :: (K45m2 x_v10 x_v11)) be j fun a2 aq => ?_)
      rcases Bool.eq_false_or_eq_true (decide (x_v10 < ((s.buses.length : Nat) : Int))) with p | p
      ·
       rw [p, cond_true] at g
       have bf : Kn 38 [(a, 0)] ((tB 20 true) :: (K45m2 x_v10 x_v11)) a2 := (aq.setB 20 true (by rfl) p).kp
       refine Rk 6 4 ((tB 24 (decide (x_v11 ≤ 1500))) :: (K45m2 x_v10 x_v11)) bf j fun a3 ar => ?_
       rcases Bool.eq_false_or_eq_true (decide (x_v11 ≤ 1500)) with q | q
       ·
        rw [q, cond_true] at g
        have bg : Kn 38 [(a, 0)] ((tB 24 true) :: (K45m2 x_v10 x_v11)) a3 := (ar.setB 24 true (by rfl) q).kp
        refine Rk 10 1 ((tA 25 (K45c1 b s e d f)) :: (tB 24 true) :: (K45m2 x_v10 x_v11)) bg j fun b5 au => ?_
        obtain ⟨x26, ex26, g⟩ := bnd g
        refine wpFrom_loud _ rfl (wantedS_sound au (by kernel_rfl)) fun K hK => ?_
        refine wc [.agg (K45c1 b s e d f)] au j (ref_ShopFault_ok ac j.has s ((rep_pair (rep_slice x) (rep_pair rep_int (rep_slice y))) : rep m s _) ex26) fun cc bw cf a4 br ax => ?_
        obtain rfl := a4
        refine ⟨.one (.c (.int .i64 x26)), rfl, fun bt (bh : Kn 38 [(a, 0)] ((tI 26 x26) :: (tA 25 (K45c1 b s e d f)) :: (tB 24 true) :: (K45m2 x_v10 x_v11)) bt) => hK _ _ ?_⟩
        refine Rk 12 2 ((tB 28 (x26 == 0)) :: (K45m2 x_v10 x_v11)) bh ax fun b6 bi => ?_
        refine wf ?_
        obtain rfl := Option.some.inj g
        exact Exists.intro _ ⟨_, rfl, bi.kp, ax, br⟩
       ·
        rw [q, cond_false] at g
        have bj : Kn 38 [(a, 0)] ((tB 24 false) :: (K45m2 x_v10 x_v11)) a3 := (ar.setB 24 false (by rfl) q).kp
        refine Rk 10 4 ((tB 28 false) :: (K45m2 x_v10 x_v11)) bj j fun b7 bk => ?_
        refine wf ?_
        obtain rfl := Option.some.inj g
        exact Exists.intro _ ⟨_, rfl, bk.kp, j, (Heap.le_refl _)⟩
      ·
       rw [p, cond_false] at g
       have bl : Kn 38 [(a, 0)] ((tB 20 false) :: (K45m2 x_v10 x_v11)) a2 := (aq.setB 20 false (by rfl) p).kp
       refine Rk 6 8 ((tB 28 false) :: (K45m2 x_v10 x_v11)) bl j fun b8 bm => ?_
       refine wf ?_
       obtain rfl := Option.some.inj g
       exact Exists.intro _ ⟨_, rfl, bm.kp, j, (Heap.le_refl _)⟩
     ·
      rintro _ cg ⟨an, af, rfl, aj, ab, aw⟩
      refine wC (a0) aj (fun ah => ?_) (fun ah => ?_)
      ·
       rw [ah, cond_true] at i
       refine wp_skip (wp_seq (wp_block (wp_region_from (Rk 0 6 [(tI 3 (IntKind.i64.wrap (x_v11 * (IntKind.i64.wrap (s.days + 1))))), (tI 4 x_v10), (tP 1 0 0)] aj ab fun b9 bn => ?_))))
       refine wf (wp_region_from (Rk 0 3 [(tI 4 (IntKind.i64.wrap (x_v10 + 1))), (tI 3 (IntKind.i64.wrap (x_v11 * (IntKind.i64.wrap (s.days + 1))))), (tP 1 0 0)] bn ab fun ca bo => ?_))
       refine wf ?_
       exact Exists.intro ac ⟨Nat.lt_succ_self _, Exists.intro (IntKind.i64.wrap (x_v10 + 1)) ⟨(IntKind.i64.wrap (x_v11 * (IntKind.i64.wrap (s.days + 1)))), _, _, rfl, bo.kp, ab, (Heap.le_trans aa aw), i⟩⟩
      ·
       rw [ah, cond_false] at i
       refine wp_exit ?_
       obtain rfl := Option.some.inj i
       exact Exists.intro _ ⟨_, rfl, aj.kp, ab, (Heap.le_trans aa aw)⟩
   ·
    rintro _ ch ⟨al, ae, rfl, bp, ay, bx⟩
    refine wp_seq (wp_region_from (Rk 0 3 [(tB 2 (decide (ad ≤ 1500)))] bp ay fun cb bq => ?_))
    refine wf (wp_ret ?_)
    obtain rfl := Option.some.inj H
    exact rt (.one (.c (.bool (decide (ad ≤ 1500))))) bq ay rfl
abbrev K78c1 (b : Option Addr) (s : Shop) (d : Nat) (e : Option Addr) (g : Nat) : List SC := [.slice b s.buses.length d, .int .i64 s.days, .slice e s.pits.length g]
abbrev K78m2 (a_plan : Option Addr) (plan : List Int) (c_plan : Nat) (day : Int) : TM := [(tP 3 0 0), (tS 1 a_plan plan.length c_plan), (tI 2 day)]
set_option maxRecDepth 100000 in
set_option maxHeartbeats 4000000 in
theorem ref_Hours_ok (n : Nat) {h : Heap} {w : World} (hh : Has h w) (s : Shop) {cs_s : List Value} (hx_s : rep h s cs_s) (plan : List Int) {a_plan : Option Addr} {c_plan : Nat} (hr_plan : RepS h a_plan c_plan plan) (day : Int) {r : Int} (H : ref_Hours n s plan day = some r) :
  Calls Try.prog 78 #[.agg cs_s.toArray, .slice a_plan plan.length c_plan, .int .i64 day] w (Ret (fun h v => v = .int .i64 r) h w) := by
 obtain ⟨_, _, rfl, ⟨b, d, rfl, ae⟩, ⟨_, _, rfl, rfl, ⟨e, g, rfl, bm⟩⟩⟩ := hx_s
 refine enter 30 [.agg (K78c1 b s d e g), .c (.slice a_plan plan.length c_plan), .c (.int .i64 day)] Try.func78 rfl rfl rfl rfl fun t hk => ?_
 have hm := Mem.begin h w hh
 unfold ref_Hours at H
 refine wp_seq (wp_region_from (wl fun K hK => ?_))
 refine wb (.agg (K78c1 b s d e g)) hk hm fun f bh bi (aq : Kn 30 [(f, 0)] [(tP 3 0 0), (tA 0 (K78c1 b s d e g)), (tS 1 a_plan plan.length c_plan), (tI 2 day)] bh) (o : Mem ⟨w, h, noX⟩ h [(f, 0)] [⟨(K78c1 b s d e g), some 74⟩] [] bi) => hK _ _ ?_
 refine Rk 1 1 (K78m2 a_plan plan c_plan day) aq o fun bn ar => ?_
 refine wf (wp_seq (wp_region_from (Rk 0 1 ((tI 7 0) :: (K78m2 a_plan plan c_plan day)) ar o fun bo au => ?_)))
 refine wf (wp_seq (wp_seq (wp_region_from (Rk 0 1 ((tI 8 0) :: (tI 7 0) :: (K78m2 a_plan plan c_plan day)) au o fun bp av => ?_))))
 refine wf ?_
 obtain ⟨u, ai, H⟩ := bnd H
 refine wp_mid' (fun a' w' => ∃ (af : Array Value) (y : Heap), a' = ⟨af, []⟩ ∧ Kn 30 [(f, 0)] [(tI 7 u)] af ∧ Mem ⟨w, h, noX⟩ y [(f, 0)] [⟨(K78c1 b s d e g), some 74⟩] [] w' ∧ Heap.le h y) ?_ ?_
 ·
  refine wp_block ?_
  refine wp_loop_n (fun be a' w' => ∃ (x_v10 : Int) (x_v11 : Int) (ag : Array Value) (i : Heap), a' = ⟨ag, []⟩ ∧ Kn 30 [(f, 0)] ((tI 8 x_v10) :: (tI 7 x_v11) :: (K78m2 a_plan plan c_plan day)) ag ∧ Mem ⟨w, h, noX⟩ i [(f, 0)] [⟨(K78c1 b s d e g), some 74⟩] [] w' ∧ Heap.le h i ∧ ref_Hours_l1 be s plan day x_v10 x_v11 = some u) n ?_ ?_
  ·
   exact Exists.intro 0 ⟨0, _, _, rfl, av.kp, o, (Heap.le_refl _), ai⟩
  ·
   rintro q _ al ⟨x_v10, x_v11, ag, i, rfl, aw, p, k, a⟩
   clear ai
   obtain _ | q := q
   ·
    rw [ref_Hours_l1] at a; cases a
   rw [ref_Hours_l1] at a
   replace ae := ae.mono k
   replace hr_plan := hr_plan.mono k
   refine wp_seq (wp_seq (wp_region_from (Rk 0 4 ((tB 12 (decide (x_v10 < ((plan.length : Nat) : Int)))) :: (tI 8 x_v10) :: (tI 7 x_v11) :: (K78m2 a_plan plan c_plan day)) aw p fun bq ab => ?_)))
   refine wf (wC (decide (x_v10 < ((plan.length : Nat) : Int))) ab (fun z => ?_) (fun z => ?_))
   ·
    rw [z, cond_true] at a
    refine wp_skip (wp_seq (wp_block (wp_seq (wp_region_from (Rk 0 2 ((tI 16 x_v10) :: (tS 15 a_plan plan.length c_plan) :: (tI 8 x_v10) :: (tI 7 x_v11) :: (K78m2 a_plan plan c_plan day)) ab p fun br ax => ?_)))))
    obtain ⟨x17, ex17, a⟩ := bnd a
    obtain ⟨a6, a8, bc⟩ := idx_some ex17
    obtain ⟨m, x, bj, am, ba, ao⟩ := hr_plan.get (by decide) bc
    obtain rfl := ba
    have l : Mem ⟨w, h, noX⟩ i [(f, 0), (m, x + (x_v10 : Int).toNat * 1)] [⟨(K78c1 b s d e g), some 74⟩, ⟨[.int .i64 x17], none⟩] [] al := p.addPlc (cs := [.int .i64 x17]) (fun j c hj => ao j _ (map_get hj)) rfl (by kernel_rfl) (by kernel_rfl)
    refine R_index 2 (x_v10) rfl rfl (rfl) rfl (by decide) ax (by rfl) (by rfl) (by rfl) am (by rfl) a6 a8 (by kernel_rfl) fun bf (ay : Kn 30 [(f, 0), (m, x + (x_v10 : Int).toNat * 1)] ((tP 17 1 0) :: (tI 16 x_v10) :: (tS 15 a_plan plan.length c_plan) :: (tI 8 x_v10) :: (tI 7 x_v11) :: (K78m2 a_plan plan c_plan day)) bf) => ?_
    refine Rk 3 3 ((tB 20 (x17 == day)) :: (tI 8 x_v10) :: (tI 7 x_v11) :: (K78m2 a_plan plan c_plan day)) ay l fun bs ac => ?_
    refine wf (wC ((x17 == day)) ac (fun aa => ?_) (fun aa => ?_))
    ·
     rw [aa, cond_true] at a
     refine wp_region_from (Rk 0 4 ((tI 24 x_v10) :: (tS 23 b s.buses.length d) :: (tI 21 x_v11) :: (tI 8 x_v10) :: (K78m2 a_plan plan c_plan day)) ac l fun bt az => ?_)
     obtain ⟨x25, ex25, a⟩ := bnd a
     obtain ⟨a7, a9, bd⟩ := idx_some ex25
     obtain ⟨ah, ak, bk, an, bb, ap⟩ := ae.get (by decide) bd
     obtain ⟨_, _, rfl, rfl, ⟨_, _, rfl, rfl, rfl⟩⟩ := bb
     have ad : Mem ⟨w, h, noX⟩ i [(f, 0), (m, x + (x_v10 : Int).toNat * 1), (ah, ak + (x_v10 : Int).toNat * 3)] [⟨(K78c1 b s d e g), some 74⟩, ⟨[.int .i64 x17], none⟩, ⟨[.int .i64 x25.due, .int .i64 x25.work, .int .i64 x25.cost], none⟩] [] al := l.addPlc (cs := [.int .i64 x25.due, .int .i64 x25.work, .int .i64 x25.cost]) (fun j c hj => ap j _ (map_get hj)) rfl (by kernel_rfl) (by kernel_rfl)
     refine R_index 4 (x_v10) rfl rfl (rfl) rfl (by decide) az (by rfl) (by rfl) (by rfl) an (by rfl) a7 a9 (by kernel_rfl) fun bg (a0 : Kn 30 [(f, 0), (m, x + (x_v10 : Int).toNat * 1), (ah, ak + (x_v10 : Int).toNat * 3)] ((tP 25 2 0) :: (tI 24 x_v10) :: (tS 23 b s.buses.length d) :: (tI 21 x_v11) :: (tI 8 x_v10) :: (K78m2 a_plan plan c_plan day)) bg) => ?_
     refine Rk 5 4 ((tI 7 (IntKind.i64.wrap (x_v11 + x25.work))) :: (tI 8 x_v10) :: (K78m2 a_plan plan c_plan day)) a0 ad fun bu a1 => ?_
     refine wf (wp_region_from (Rk 0 3 ((tI 8 (IntKind.i64.wrap (x_v10 + 1))) :: (tI 7 (IntKind.i64.wrap (x_v11 + x25.work))) :: (K78m2 a_plan plan c_plan day)) a1 ad fun bv a2 => ?_))
     refine wf ?_
     exact Exists.intro q ⟨Nat.lt_succ_self _, Exists.intro (IntKind.i64.wrap (x_v10 + 1)) ⟨(IntKind.i64.wrap (x_v11 + x25.work)), _, _, rfl, ((a2.keep [8, 7, 3, 1, 2] (by rfl)).cut 1 (by kernel_rfl)), (ad.cutPl 1 (by kernel_rfl)), k, a⟩⟩
    ·
     rw [aa, cond_false] at a
     refine wp_skip (wp_region_from (Rk 0 3 ((tI 8 (IntKind.i64.wrap (x_v10 + 1))) :: (tI 7 x_v11) :: (K78m2 a_plan plan c_plan day)) ac l fun bw a3 => ?_))
     refine wf ?_
     exact Exists.intro q ⟨Nat.lt_succ_self _, Exists.intro (IntKind.i64.wrap (x_v10 + 1)) ⟨x_v11, _, _, rfl, ((a3.keep [8, 7, 3, 1, 2] (by rfl)).cut 1 (by kernel_rfl)), (l.cutPl 1 (by kernel_rfl)), k, a⟩⟩
   ·
    rw [z, cond_false] at a
    refine wp_exit ?_
    obtain rfl := Option.some.inj a
    exact Exists.intro _ ⟨_, rfl, ab.kp, p, k⟩
 ·
  rintro _ bz ⟨af, y, rfl, a4, aj, bl⟩
  refine wp_seq (wp_region_from (Rk 0 2 [(tI 6 u)] a4 aj fun bx a5 => ?_))
  refine wf (wp_ret ?_)
  obtain rfl := Option.some.inj H
  exact rt (.one (.c (.int .i64 u))) a5 aj rfl
abbrev K48c1 (d : Option Addr) (s : Shop) (e : Nat) (a : Option Addr) (b : Nat) : List SC := [.slice d s.buses.length e, .int .i64 s.days, .slice a s.pits.length b]
abbrev K48m2 (a_plan : Option Addr) (plan : List Int) (c_plan : Nat) : TM := [(tP 2 0 0), (tS 1 a_plan plan.length c_plan)]
set_option maxRecDepth 100000 in
set_option maxHeartbeats 4000000 in
theorem ref_Fits_ok (n : Nat) {h : Heap} {w : World} (hh : Has h w) (s : Shop) {cs_s : List Value} (hx_s : rep h s cs_s) (plan : List Int) {a_plan : Option Addr} {c_plan : Nat} (hr_plan : RepS h a_plan c_plan plan) {r : Bool} (H : ref_Fits n s plan = some r) :
  Calls Try.prog 48 #[.agg cs_s.toArray, .slice a_plan plan.length c_plan] w (Ret (fun h v => v = .bool r) h w) := by
 obtain ⟨_, _, rfl, ⟨d, e, rfl, o⟩, ⟨_, _, rfl, rfl, ⟨a, b, rfl, k⟩⟩⟩ := hx_s
 refine enter 44 [.agg (K48c1 d s e a b), .c (.slice a_plan plan.length c_plan)] Try.func48 rfl rfl rfl rfl fun t hk => ?_
 have hm := Mem.begin h w hh
 unfold ref_Fits at H
 refine wp_seq (wp_region_from (wl fun K hK => ?_))
 refine wb (.agg (K48c1 d s e a b)) hk hm fun f cj cm (bg : Kn 44 [(f, 0)] [(tP 2 0 0), (tA 0 (K48c1 d s e a b)), (tS 1 a_plan plan.length c_plan)] cj) (p : Mem ⟨w, h, noX⟩ h [(f, 0)] [⟨(K48c1 d s e a b), some 74⟩] [] cm) => hK _ _ ?_
 refine Rk 1 1 (K48m2 a_plan plan c_plan) bg p fun cv bn => ?_
 refine wf (wp_seq (wp_seq (wp_region_from (Rk 0 6 ((tB 12 (((plan.length : Nat) : Int) != ((s.buses.length : Nat) : Int))) :: (K48m2 a_plan plan c_plan)) bn p fun cz an => ?_))))
 refine wf (wC ((((plan.length : Nat) : Int) != ((s.buses.length : Nat) : Int))) an (fun ai => ?_) (fun ai => ?_))
 ·
  rw [ai, cond_true] at H
  refine wp_seq (wp_region_from (Rk 0 1 [(tB 4 false)] an p fun c0 bp => ?_))
  refine wf (wp_ret ?_)
  obtain rfl := Option.some.inj H
  exact rt (.one (.c (.bool false))) bp p rfl
 ·
  rw [ai, cond_false] at H
  refine wp_skip (wp_seq (wp_seq (wp_region_from (Rk 0 1 ((tI 5 0) :: (K48m2 a_plan plan c_plan)) an p fun c1 bq => ?_))))
  refine wf ?_
  obtain ⟨a6, a2, H⟩ := bnd H
  refine wp_mid' (fun a' w' => ∃ (a8 : Unit) (ay : Array Value) (x : Heap), a' = ⟨ay, []⟩ ∧ Kn 44 [(f, 0)] (K48m2 a_plan plan c_plan) ay ∧ Mem ⟨w, h, noX⟩ x [(f, 0)] [⟨(K48c1 d s e a b), some 74⟩] [] w' ∧ Heap.le h x ∧ a6 = .go a8) ?_ ?_
  ·
   refine wp_block ?_
   refine wp_loop_n (fun cd a' w' => ∃ (x_v10 : Int) (az : Array Value) (ab : Heap), a' = ⟨az, []⟩ ∧ Kn 44 [(f, 0)] ((tI 5 x_v10) :: (K48m2 a_plan plan c_plan)) az ∧ Mem ⟨w, h, noX⟩ ab [(f, 0)] [⟨(K48c1 d s e a b), some 74⟩] [] w' ∧ Heap.le h ab ∧ ref_Fits_l1 cd s plan x_v10 = some a6) n ?_ ?_
   ·
    exact Exists.intro 0 ⟨_, _, rfl, bq.kp, p, (Heap.le_refl _), a2⟩
   ·
    rintro ac _ ck ⟨x_v10, az, ab, rfl, br, l, z, g⟩
    clear a2
    obtain _ | ac := ac
    ·
     rw [ref_Fits_l1] at g; cases g
    rw [ref_Fits_l1] at g
    replace o := o.mono z
    replace k := k.mono z
    replace hr_plan := hr_plan.mono z
    refine wp_seq (wp_seq (wp_region_from (Rk 0 4 ((tB 16 (decide (x_v10 < ((plan.length : Nat) : Int)))) :: (tI 5 x_v10) :: (K48m2 a_plan plan c_plan)) br l fun c2 ao => ?_)))
    refine wf (wC (decide (x_v10 < ((plan.length : Nat) : Int))) ao (fun aj => ?_) (fun aj => ?_))
    ·
     rw [aj, cond_true] at g
     refine wp_skip (wp_seq (wp_block (wp_seq (wp_region_G (by kernel_rfl) ?_))))
     replace l := l.drew
     refine wpG_of_D [] [(f, 0)] [⟨(K48c1 d s e a b), some 74⟩] ?_
     refine Dr [0, 1] [1, 0] ((tI 20 x_v10) :: (tS 19 a_plan plan.length c_plan) :: (tI 5 x_v10) :: (K48m2 a_plan plan c_plan)) ao l fun c3 bs => ?_
     obtain ⟨x21, ex21, g⟩ := bnd g
     obtain ⟨b6, b8, cc⟩ := idx_some ex21
     obtain ⟨ae, aw, cn, bc, ca, bf⟩ := hr_plan.get (by decide) cc
     obtain rfl := ca
     have av : Mem ⟨w, h, noX⟩ ab [(f, 0), (ae, aw + (x_v10 : Int).toNat * 1)] [⟨(K48c1 d s e a b), some 74⟩, ⟨[.int .i64 x21], none⟩] [] (World.drew ck) := l.addPlc (cs := [.int .i64 x21]) (fun j c hj => bf j _ (map_get hj)) rfl (by kernel_rfl) (by kernel_rfl)
     refine D_index 2 (x_v10) [.int .i64 x21] (fun _ _ _ _ _ h => h) rfl rfl (rfl) rfl (by decide) (by kernel_rfl) (by kernel_rfl) bs l.plOk (by rfl) (by rfl) (by rfl) bc (by rfl) b6 b8 (by kernel_rfl) fun ch (bt : Kn 44 [(f, 0), (ae, aw + (x_v10 : Int).toNat * 1)] ((tP 21 1 0) :: (tI 20 x_v10) :: (tS 19 a_plan plan.length c_plan) :: (tI 5 x_v10) :: (K48m2 a_plan plan c_plan)) ch) => ?_
     refine Dr [3, 4, 5, 6] (dn 6) ((tI 25 (IntKind.i64.wrap (s.days - 1))) :: (tI 22 x21) :: (tI 5 x_v10) :: (K48m2 a_plan plan c_plan)) bt av fun c4 bu => ?_
     obtain ⟨x26, ex26, g⟩ := bnd g
     refine Dl 7 fun K hK => ?_
     refine wc [.c (.int .i64 x21), .c (.int .i64 (-1)), .c (.int .i64 (IntKind.i64.wrap (s.days - 1)))] bu av (ref_In_ok ac av.has x21 (-1) (IntKind.i64.wrap (s.days - 1)) ex26) fun dc cq df bb b4 u => ?_
     obtain rfl := bb
     refine ⟨.one (.c (.bool x26)), rfl, fun ci (bv : Kn 44 [(f, 0), (ae, aw + (x_v10 : Int).toNat * 1)] ((tB 26 x26) :: (tI 25 (IntKind.i64.wrap (s.days - 1))) :: (tI 22 x21) :: (tI 5 x_v10) :: (K48m2 a_plan plan c_plan)) ci) => hK _ _ u.plOk ?_⟩
     refine Dr [8] (dn 8) ((tB 27 (!x26)) :: (tI 5 x_v10) :: (K48m2 a_plan plan c_plan)) bv u fun c5 ap => ?_
     refine wpD_end (by kernel_rfl) (wC ((!x26)) ap (fun ak => ?_) (fun ak => ?_))
     ·
      rw [ak, cond_true] at g
      refine wp_seq (wp_region_from (Rk 0 1 [(tB 4 false)] ap u fun c6 bw => ?_))
      refine wf (wp_ret ?_)
      obtain rfl := Option.some.inj g
      obtain rfl := Option.some.inj H
      exact rt (.one (.c (.bool false))) bw u rfl
     ·
      rw [ak, cond_false] at g
      refine wp_skip (wp_region_from (Rk 0 3 ((tI 5 (IntKind.i64.wrap (x_v10 + 1))) :: (K48m2 a_plan plan c_plan)) ap u fun c7 bx => ?_))
      refine wf ?_
      exact Exists.intro ac ⟨Nat.lt_succ_self _, Exists.intro (IntKind.i64.wrap (x_v10 + 1)) ⟨_, _, rfl, ((bx.keep [5, 2, 1] (by rfl)).cut 1 (by kernel_rfl)), (u.cutPl 1 (by kernel_rfl)), (Heap.le_trans z b4), g⟩⟩
    ·
     rw [aj, cond_false] at g
     refine wp_exit ?_
     obtain rfl := Option.some.inj g
     exact Exists.intro () ⟨_, _, rfl, ao.kp, l, z, rfl⟩
  ·
   rintro _ dg ⟨a8, ay, x, rfl, bz, a5, ar, rfl⟩
   rw [Ex.bind_go] at H
   replace o := o.mono ar
   replace k := k.mono ar
   replace hr_plan := hr_plan.mono ar
   refine wp_seq (wp_seq (wp_region_from (Rk 0 1 ((tI 6 0) :: (K48m2 a_plan plan c_plan)) bz a5 fun c8 b0 => ?_)))
   refine wf ?_
   obtain ⟨a7, a3, H⟩ := bnd H
   refine wp_mid' (fun a' w' => ∃ (a9 : Unit) (a0 : Array Value) (ag : Heap), a' = ⟨a0, []⟩ ∧ Kn 44 [(f, 0)] [] a0 ∧ Mem ⟨w, h, noX⟩ ag [(f, 0)] [⟨(K48c1 d s e a b), some 74⟩] [] w' ∧ Heap.le x ag ∧ a7 = .go a9) ?_ ?_
   ·
    refine wp_block ?_
    refine wp_loop_n (fun ce a' w' => ∃ (x_v20 : Int) (a1 : Array Value) (y : Heap), a' = ⟨a1, []⟩ ∧ Kn 44 [(f, 0)] ((tI 6 x_v20) :: (K48m2 a_plan plan c_plan)) a1 ∧ Mem ⟨w, h, noX⟩ y [(f, 0)] [⟨(K48c1 d s e a b), some 74⟩] [] w' ∧ Heap.le x y ∧ ref_Fits_l2 ce s plan x_v20 = some a7) n ?_ ?_
    ·
     exact Exists.intro 0 ⟨_, _, rfl, b0.kp, a5, (Heap.le_refl _), a3⟩
    ·
     rintro ad _ cl ⟨x_v20, a1, y, rfl, b1, m, aa, i⟩
     clear a3
     obtain _ | ad := ad
     ·
      rw [ref_Fits_l2] at i; cases i
     rw [ref_Fits_l2] at i
     replace o := o.mono aa
     replace k := k.mono aa
     replace hr_plan := hr_plan.mono aa
     refine wp_seq (wp_seq (wp_region_from (Rk 0 4 ((tB 31 (decide (x_v20 < s.days))) :: (tI 6 x_v20) :: (K48m2 a_plan plan c_plan)) b1 m fun c9 aq => ?_)))
     refine wf (wC (decide (x_v20 < s.days)) aq (fun al => ?_) (fun al => ?_))
     ·
      rw [al, cond_true] at i
      refine wp_skip (wp_seq (wp_block (wp_seq (wp_region_G (by kernel_rfl) ?_))))
      replace m := m.drew
      refine wpG_of_D [] [(f, 0)] [⟨(K48c1 d s e a b), some 74⟩] ?_
      refine Dr [0, 1, 2, 4, 5, 6] [6, 5, 4, 2, 1, 0] ((tI 40 x_v20) :: (tS 39 a s.pits.length b) :: (tI 36 x_v20) :: (tS 35 a_plan plan.length c_plan) :: (tA 34 (K48c1 d s e a b)) :: (tI 6 x_v20) :: (K48m2 a_plan plan c_plan)) aq m fun da b2 => ?_
      obtain ⟨x41, ex41, i⟩ := bnd i
      obtain ⟨b5, b7, cb⟩ := idx_some ex41
      obtain ⟨af, ax, co, bd, b9, be⟩ := k.get (by decide) cb
      obtain rfl := b9
      have au : Mem ⟨w, h, noX⟩ y [(f, 0), (af, ax + (x_v20 : Int).toNat * 1)] [⟨(K48c1 d s e a b), some 74⟩, ⟨[.int .i64 x41], none⟩] [] (World.drew cl) := m.addPlc (cs := [.int .i64 x41]) (fun j c hj => be j _ (map_get hj)) rfl (by kernel_rfl) (by kernel_rfl)
      refine D_index 7 (x_v20) [.int .i64 x41] (fun _ _ _ _ _ h => h) rfl rfl (rfl) rfl (by decide) (by kernel_rfl) (by kernel_rfl) b2 m.plOk (by rfl) (by rfl) (by rfl) bd (by rfl) b5 b7 (by kernel_rfl) fun cf (bh : Kn 44 [(f, 0), (af, ax + (x_v20 : Int).toNat * 1)] ((tP 41 1 0) :: (tI 40 x_v20) :: (tS 39 a s.pits.length b) :: (tI 36 x_v20) :: (tS 35 a_plan plan.length c_plan) :: (tA 34 (K48c1 d s e a b)) :: (tI 6 x_v20) :: (K48m2 a_plan plan c_plan)) cf) => ?_
      refine Dr [8] [8, 7, 6, 5, 4, 2, 1, 0] ((tI 42 x41) :: (tI 36 x_v20) :: (tS 35 a_plan plan.length c_plan) :: (tA 34 (K48c1 d s e a b)) :: (tI 6 x_v20) :: (K48m2 a_plan plan c_plan)) bh au fun ct bi => ?_
      obtain ⟨x37, ex37, i⟩ := bnd i
      refine Dl 3 fun K hK => ?_
      refine wc [.agg (K48c1 d s e a b), .c (.slice a_plan plan.length c_plan), .c (.int .i64 x_v20)] bi au (ref_Hours_ok ad au.has s ((rep_pair (rep_slice o) (rep_pair rep_int (rep_slice k))) : rep y s _) plan hr_plan x_v20 ex37) fun db cp dd ba b3 q => ?_
      obtain rfl := ba
      refine ⟨.one (.c (.int .i64 x37)), rfl, fun cg (bj : Kn 44 [(f, 0), (af, ax + (x_v20 : Int).toNat * 1)] ((tI 37 x37) :: (tI 42 x41) :: (tI 36 x_v20) :: (tS 35 a_plan plan.length c_plan) :: (tA 34 (K48c1 d s e a b)) :: (tI 6 x_v20) :: (K48m2 a_plan plan c_plan)) cg) => hK _ _ q.plOk ?_⟩
      refine Dr [9] [9, 3, 8, 7, 6, 5, 4, 2, 1, 0] ((tB 43 (decide (x37 > x41))) :: (tI 6 x_v20) :: (K48m2 a_plan plan c_plan)) bj q fun cu am => ?_
      refine wpD_end (by kernel_rfl) (wC (decide (x37 > x41)) am (fun ah => ?_) (fun ah => ?_))
      ·
       rw [ah, cond_true] at i
       refine wp_seq (wp_region_from (Rk 0 1 [(tB 4 false)] am q fun cw bk => ?_))
       refine wf (wp_ret ?_)
       obtain rfl := Option.some.inj i
       obtain rfl := Option.some.inj H
       exact rt (.one (.c (.bool false))) bk q rfl
      ·
       rw [ah, cond_false] at i
       refine wp_skip (wp_region_from (Rk 0 3 ((tI 6 (IntKind.i64.wrap (x_v20 + 1))) :: (K48m2 a_plan plan c_plan)) am q fun cx bl => ?_))
       refine wf ?_
       exact Exists.intro ad ⟨Nat.lt_succ_self _, Exists.intro (IntKind.i64.wrap (x_v20 + 1)) ⟨_, _, rfl, ((bl.keep [6, 2, 1] (by rfl)).cut 1 (by kernel_rfl)), (q.cutPl 1 (by kernel_rfl)), (Heap.le_trans aa b3), i⟩⟩
     ·
      rw [al, cond_false] at i
      refine wp_exit ?_
      obtain rfl := Option.some.inj i
      exact Exists.intro () ⟨_, _, rfl, aq.kp, m, aa, rfl⟩
   ·
    rintro _ de ⟨a9, a0, ag, rfl, bm, a4, cr, rfl⟩
    rw [Ex.bind_go] at H
    refine wp_seq (wp_region_from (Rk 0 1 [(tB 4 true)] bm a4 fun cy bo => ?_))
    refine wf (wp_ret ?_)
    obtain rfl := Option.some.inj H
    exact rt (.one (.c (.bool true))) bo a4 rfl
abbrev K79c1 (a : Option Addr) (s : Shop) (b : Nat) (d : Option Addr) (e : Nat) : List SC := [.slice a s.buses.length b, .int .i64 s.days, .slice d s.pits.length e]
set_option maxRecDepth 100000 in
set_option maxHeartbeats 4000000 in
theorem ref_Late_ok (n : Nat) {h : Heap} {w : World} (hh : Has h w) (s : Shop) {cs_s : List Value} (hx_s : rep h s cs_s) (bus : Int) (day : Int) {r : Int} (H : ref_Late n s bus day = some r) :
  Calls Try.prog 79 #[.agg cs_s.toArray, .int .i64 bus, .int .i64 day] w (Ret (fun h v => v = .int .i64 r) h w) := by
 obtain ⟨_, _, rfl, ⟨a, b, rfl, u⟩, ⟨_, _, rfl, rfl, ⟨d, e, rfl, a0⟩⟩⟩ := hx_s
 refine enter 29 [.agg (K79c1 a s b d e), .c (.int .i64 bus), .c (.int .i64 day)] Try.func79 rfl rfl rfl rfl fun t hk => ?_
 have hm := Mem.begin h w hh
 unfold ref_Late at H
 refine wp_seq (wp_region_from (wl fun K hK => ?_))
 refine wb (.agg (K79c1 a s b d e)) hk hm fun g ax l (ad : Kn 29 [(g, 0)] [(tP 3 0 0), (tA 0 (K79c1 a s b d e)), (tI 1 bus), (tI 2 day)] ax) (f : Mem ⟨w, h, noX⟩ h [(g, 0)] [⟨(K79c1 a s b d e), some 74⟩] [] l) => hK _ _ ?_
 refine Rk 1 1 [(tP 3 0 0), (tI 1 bus), (tI 2 day)] ad f fun a1 ae => ?_
 refine wf (wp_seq (wp_seq (wp_region_from (Rk 0 2 [(tB 8 (decide (day < 0))), (tP 3 0 0), (tI 1 bus), (tI 2 day)] ae f fun a2 k => ?_))))
 refine wf (wC (decide (day < 0)) k (fun i => ?_) (fun i => ?_))
 ·
  rw [i, cond_true] at H
  refine wp_seq (wp_region_G (by kernel_rfl) ?_)
  replace f := f.drew
  refine wpG_of_D [] [(g, 0)] [⟨(K79c1 a s b d e), some 74⟩] ?_
  refine Dr [0, 1, 2, 3, 4] (dn 4) [(tI 13 bus), (tS 12 a s.buses.length b), (tI 10 s.days)] k f fun a3 af => ?_
  obtain ⟨x14, ex14, H⟩ := bnd H
  obtain ⟨al, an, ar⟩ := idx_some ex14
  obtain ⟨m, x, ay, z, ap, ab⟩ := u.get (by decide) ar
  obtain ⟨_, _, rfl, rfl, ⟨_, _, rfl, rfl, rfl⟩⟩ := ap
  have p : Mem ⟨w, h, noX⟩ h [(g, 0), (m, x + (bus : Int).toNat * 3)] [⟨(K79c1 a s b d e), some 74⟩, ⟨[.int .i64 x14.due, .int .i64 x14.work, .int .i64 x14.cost], none⟩] [] (World.drew l) := f.addPlc (cs := [.int .i64 x14.due, .int .i64 x14.work, .int .i64 x14.cost]) (fun j c hj => ab j _ (map_get hj)) rfl (by kernel_rfl) (by kernel_rfl)
  refine D_index 5 (bus) [.int .i64 x14.due, .int .i64 x14.work, .int .i64 x14.cost] (fun _ _ _ _ _ h => h) rfl rfl (rfl) rfl (by decide) (by kernel_rfl) (by kernel_rfl) af f.plOk (by rfl) (by rfl) (by rfl) z (by rfl) al an (by kernel_rfl) fun av (ag : Kn 29 [(g, 0), (m, x + (bus : Int).toNat * 3)] [(tP 14 1 0), (tI 13 bus), (tS 12 a s.buses.length b), (tI 10 s.days)] av) => ?_
  refine Dr [6, 7, 8, 9, 10, 11] (dn 11) [(tI 6 (IntKind.i64.wrap ((if (IntKind.i64.wrap (s.days - x14.due)) > 0 then (IntKind.i64.wrap (s.days - x14.due)) else 0) + 14)))] ag p fun a4 ah => ?_
  refine wpD_end (by kernel_rfl) (wp_ret ?_)
  obtain rfl := Option.some.inj H
  exact rt (.one (.c (.int .i64 (IntKind.i64.wrap ((if (IntKind.i64.wrap (s.days - x14.due)) > 0 then (IntKind.i64.wrap (s.days - x14.due)) else 0) + 14))))) ah p rfl
 ·
  rw [i, cond_false] at H
  refine wp_skip (wp_seq (wp_region_from (Rk 0 4 [(tI 23 bus), (tS 22 a s.buses.length b), (tI 20 day)] k f fun a5 ai => ?_)))
  obtain ⟨x24, ex24, H⟩ := bnd H
  obtain ⟨am, ao, au⟩ := idx_some ex24
  obtain ⟨o, y, az, aa, aq, ac⟩ := u.get (by decide) au
  obtain ⟨_, _, rfl, rfl, ⟨_, _, rfl, rfl, rfl⟩⟩ := aq
  have q : Mem ⟨w, h, noX⟩ h [(g, 0), (o, y + (bus : Int).toNat * 3)] [⟨(K79c1 a s b d e), some 74⟩, ⟨[.int .i64 x24.due, .int .i64 x24.work, .int .i64 x24.cost], none⟩] [] l := f.addPlc (cs := [.int .i64 x24.due, .int .i64 x24.work, .int .i64 x24.cost]) (fun j c hj => ac j _ (map_get hj)) rfl (by kernel_rfl) (by kernel_rfl)
  refine R_index 4 (bus) rfl rfl (rfl) rfl (by decide) ai (by rfl) (by rfl) (by rfl) aa (by rfl) am ao (by kernel_rfl) fun aw (aj : Kn 29 [(g, 0), (o, y + (bus : Int).toNat * 3)] [(tP 24 1 0), (tI 23 bus), (tS 22 a s.buses.length b), (tI 20 day)] aw) => ?_
  refine Rk 5 5 [(tI 6 (if (IntKind.i64.wrap (day - x24.due)) > 0 then (IntKind.i64.wrap (day - x24.due)) else 0))] aj q fun a6 ak => ?_
  refine wf (wp_ret ?_)
  obtain rfl := Option.some.inj H
  exact rt (.one (.c (.int .i64 (if (IntKind.i64.wrap (day - x24.due)) > 0 then (IntKind.i64.wrap (day - x24.due)) else 0)))) ak q rfl
abbrev K49c1 (a : Option Addr) (s : Shop) (b : Nat) (d : Option Addr) (e : Nat) : List SC := [.slice a s.buses.length b, .int .i64 s.days, .slice d s.pits.length e]
abbrev K49m2 (x_v10 : Int) (a : Option Addr) (s : Shop) (b : Nat) (d : Option Addr) (e : Nat) (x_v11 : Int) (a_plan : Option Addr) (plan : List Int) (c_plan : Nat) : TM := [(tI 15 x_v10), (tA 14 (K49c1 a s b d e)), (tI 13 x_v11), (tI 6 x_v10), (tP 2 0 0), (tS 1 a_plan plan.length c_plan)]
set_option maxRecDepth 100000 in
set_option maxHeartbeats 4000000 in
theorem ref_Cost_ok (n : Nat) {h : Heap} {w : World} (hh : Has h w) (s : Shop) {cs_s : List Value} (hx_s : rep h s cs_s) (plan : List Int) {a_plan : Option Addr} {c_plan : Nat} (hr_plan : RepS h a_plan c_plan plan) {r : Int} (H : ref_Cost n s plan = some r) :
  Calls Try.prog 49 #[.agg cs_s.toArray, .slice a_plan plan.length c_plan] w (Ret (fun h v => v = .int .i64 r) h w) := by
 obtain ⟨_, _, rfl, ⟨a, b, rfl, u⟩, ⟨_, _, rfl, rfl, ⟨d, e, rfl, af⟩⟩⟩ := hx_s
 refine enter 30 [.agg (K49c1 a s b d e), .c (.slice a_plan plan.length c_plan)] Try.func49 rfl rfl rfl rfl fun t hk => ?_
 have hm := Mem.begin h w hh
 unfold ref_Cost at H
 refine wp_seq (wp_region_from (wl fun K hK => ?_))
 refine wb (.agg (K49c1 a s b d e)) hk hm fun g bl bm (ar : Kn 30 [(g, 0)] [(tP 2 0 0), (tA 0 (K49c1 a s b d e)), (tS 1 a_plan plan.length c_plan)] bl) (p : Mem ⟨w, h, noX⟩ h [(g, 0)] [⟨(K49c1 a s b d e), some 74⟩] [] bm) => hK _ _ ?_
 refine Rk 1 1 [(tP 2 0 0), (tS 1 a_plan plan.length c_plan)] ar p fun br au => ?_
 refine wf (wp_seq (wp_region_from (Rk 0 1 [(tI 5 0), (tP 2 0 0), (tS 1 a_plan plan.length c_plan)] au p fun bs av => ?_)))
 refine wf (wp_seq (wp_seq (wp_region_from (Rk 0 1 [(tI 6 0), (tI 5 0), (tP 2 0 0), (tS 1 a_plan plan.length c_plan)] av p fun bt aw => ?_))))
 refine wf ?_
 obtain ⟨y, aj, H⟩ := bnd H
 refine wp_mid' (fun a' w' => ∃ (ah : Array Value) (aa : Heap), a' = ⟨ah, []⟩ ∧ Kn 30 [(g, 0)] [(tI 5 y)] ah ∧ Mem ⟨w, h, noX⟩ aa [(g, 0)] [⟨(K49c1 a s b d e), some 74⟩] [] w' ∧ Heap.le h aa) ?_ ?_
 ·
  refine wp_block ?_
  refine wp_loop_n (fun bh a' w' => ∃ (x_v10 : Int) (x_v11 : Int) (ai : Array Value) (k : Heap), a' = ⟨ai, []⟩ ∧ Kn 30 [(g, 0)] [(tI 6 x_v10), (tI 5 x_v11), (tP 2 0 0), (tS 1 a_plan plan.length c_plan)] ai ∧ Mem ⟨w, h, noX⟩ k [(g, 0)] [⟨(K49c1 a s b d e), some 74⟩] [] w' ∧ Heap.le h k ∧ ref_Cost_l1 bh s plan x_v10 x_v11 = some y) n ?_ ?_
  ·
   exact Exists.intro 0 ⟨0, _, _, rfl, aw.kp, p, (Heap.le_refl _), aj⟩
  ·
   rintro x _ al ⟨x_v10, x_v11, ai, k, rfl, ax, i, m, f⟩
   clear aj
   obtain _ | x := x
   ·
    rw [ref_Cost_l1] at f; cases f
   rw [ref_Cost_l1] at f
   replace u := u.mono m
   replace af := af.mono m
   replace hr_plan := hr_plan.mono m
   refine wp_seq (wp_seq (wp_region_from (Rk 0 4 [(tB 10 (decide (x_v10 < ((plan.length : Nat) : Int)))), (tI 6 x_v10), (tI 5 x_v11), (tP 2 0 0), (tS 1 a_plan plan.length c_plan)] ax i fun bu ac => ?_)))
   refine wf (wC (decide (x_v10 < ((plan.length : Nat) : Int))) ac (fun ab => ?_) (fun ab => ?_))
   ·
    rw [ab, cond_true] at f
    refine wp_skip (wp_seq (wp_block (wp_region_G (by kernel_rfl) ?_)))
    replace i := i.drew
    refine wpG_of_D [] [(g, 0)] [⟨(K49c1 a s b d e), some 74⟩] ?_
    refine Dr [0, 1, 2, 3, 4] (dn 4) ((tI 17 x_v10) :: (tS 16 a_plan plan.length c_plan) :: (K49m2 x_v10 a s b d e x_v11 a_plan plan c_plan)) ac i fun bv ay => ?_
    obtain ⟨x18, ex18, f⟩ := bnd f
    obtain ⟨a9, bb, bf⟩ := idx_some ex18
    obtain ⟨l, o, bn, an, bd, ap⟩ := hr_plan.get (by decide) bf
    obtain rfl := bd
    have ad : Mem ⟨w, h, noX⟩ k [(g, 0), (l, o + (x_v10 : Int).toNat * 1)] [⟨(K49c1 a s b d e), some 74⟩, ⟨[.int .i64 x18], none⟩] [] (World.drew al) := i.addPlc (cs := [.int .i64 x18]) (fun j c hj => ap j _ (map_get hj)) rfl (by kernel_rfl) (by kernel_rfl)
    refine D_index 5 (x_v10) [.int .i64 x18] (fun _ _ _ _ _ h => h) rfl rfl (rfl) rfl (by decide) (by kernel_rfl) (by kernel_rfl) ay i.plOk (by rfl) (by rfl) (by rfl) an (by rfl) a9 bb (by kernel_rfl) fun bi (az : Kn 30 [(g, 0), (l, o + (x_v10 : Int).toNat * 1)] ((tP 18 1 0) :: (tI 17 x_v10) :: (tS 16 a_plan plan.length c_plan) :: (K49m2 x_v10 a s b d e x_v11 a_plan plan c_plan)) bi) => ?_
    refine Dr [6, 8, 9, 10] [10, 9, 8, 6, 5, 4, 3, 2, 1, 0] ((tI 23 x_v10) :: (tS 22 a s.buses.length b) :: (tI 19 x18) :: (K49m2 x_v10 a s b d e x_v11 a_plan plan c_plan)) az ad fun bw a0 => ?_
    obtain ⟨x24, ex24, f⟩ := bnd f
    obtain ⟨ba, bc, bg⟩ := idx_some ex24
    obtain ⟨z, ag, bo, ao, be, aq⟩ := u.get (by decide) bg
    obtain ⟨_, _, rfl, rfl, ⟨_, _, rfl, rfl, rfl⟩⟩ := be
    have ae : Mem ⟨w, h, noX⟩ k [(g, 0), (l, o + (x_v10 : Int).toNat * 1), (z, ag + (x_v10 : Int).toNat * 3)] [⟨(K49c1 a s b d e), some 74⟩, ⟨[.int .i64 x18], none⟩, ⟨[.int .i64 x24.due, .int .i64 x24.work, .int .i64 x24.cost], none⟩] [] (World.drew al) := ad.addPlc (cs := [.int .i64 x24.due, .int .i64 x24.work, .int .i64 x24.cost]) (fun j c hj => aq j _ (map_get hj)) rfl (by kernel_rfl) (by kernel_rfl)
    refine D_index 11 (x_v10) [.int .i64 x24.due, .int .i64 x24.work, .int .i64 x24.cost] (fun _ _ _ _ _ h => h) rfl rfl (rfl) rfl (by decide) (by kernel_rfl) (by kernel_rfl) a0 ad.plOk (by rfl) (by rfl) (by rfl) ao (by rfl) ba bc (by kernel_rfl) fun bj (a1 : Kn 30 [(g, 0), (l, o + (x_v10 : Int).toNat * 1), (z, ag + (x_v10 : Int).toNat * 3)] ((tP 24 2 0) :: (tI 23 x_v10) :: (tS 22 a s.buses.length b) :: (tI 19 x18) :: (K49m2 x_v10 a s b d e x_v11 a_plan plan c_plan)) bj) => ?_
    refine Dr [12, 13] [13, 12, 11, 10, 9, 8, 6, 5, 4, 3, 2, 1, 0] ((tI 26 x24.cost) :: (tI 19 x18) :: (K49m2 x_v10 a s b d e x_v11 a_plan plan c_plan)) a1 ae fun bx a2 => ?_
    obtain ⟨x20, ex20, f⟩ := bnd f
    refine Dl 7 fun K hK => ?_
    refine wc [.agg (K49c1 a s b d e), .c (.int .i64 x_v10), .c (.int .i64 x18)] a2 ae (ref_Late_ok x ae.has s ((rep_pair (rep_slice u) (rep_pair rep_int (rep_slice af))) : rep k s _) x_v10 x18 ex20) fun b2 bp b3 am a8 q => ?_
    obtain rfl := am
    refine ⟨.one (.c (.int .i64 x20)), rfl, fun bk (a3 : Kn 30 [(g, 0), (l, o + (x_v10 : Int).toNat * 1), (z, ag + (x_v10 : Int).toNat * 3)] ((tI 20 x20) :: (tI 26 x24.cost) :: (tI 19 x18) :: (K49m2 x_v10 a s b d e x_v11 a_plan plan c_plan)) bk) => hK _ _ q.plOk ?_⟩
    refine Dr [14, 15, 16] [16, 15, 14, 7, 13, 12, 11, 10, 9, 8, 6, 5, 4, 3, 2, 1, 0] [(tI 5 (IntKind.i64.wrap (x_v11 + (IntKind.i64.wrap (x20 * x24.cost))))), (tI 6 x_v10), (tP 2 0 0), (tS 1 a_plan plan.length c_plan)] a3 q fun bz a4 => ?_
    refine wpD_end (by kernel_rfl) (wp_region_from (Rk 0 3 [(tI 6 (IntKind.i64.wrap (x_v10 + 1))), (tI 5 (IntKind.i64.wrap (x_v11 + (IntKind.i64.wrap (x20 * x24.cost))))), (tP 2 0 0), (tS 1 a_plan plan.length c_plan)] a4 q fun b0 a5 => ?_))
    refine wf ?_
    exact Exists.intro x ⟨Nat.lt_succ_self _, Exists.intro (IntKind.i64.wrap (x_v10 + 1)) ⟨(IntKind.i64.wrap (x_v11 + (IntKind.i64.wrap (x20 * x24.cost)))), _, _, rfl, ((a5.keep [6, 5, 2, 1] (by rfl)).cut 1 (by kernel_rfl)), (q.cutPl 1 (by kernel_rfl)), (Heap.le_trans m a8), f⟩⟩
   ·
    rw [ab, cond_false] at f
    refine wp_exit ?_
    obtain rfl := Option.some.inj f
    exact Exists.intro _ ⟨_, rfl, ac.kp, i, m⟩
 ·
  rintro _ b4 ⟨ah, aa, rfl, a6, ak, bq⟩
  refine wp_seq (wp_region_from (Rk 0 2 [(tI 4 y)] a6 ak fun b1 a7 => ?_))
  refine wf (wp_ret ?_)
  obtain rfl := Option.some.inj H
  exact rt (.one (.c (.int .i64 y))) a7 ak rfl
abbrev K50c1 (b : Option Addr) (s : Shop) (e : Nat) (d : Option Addr) (f : Nat) : List SC := [.slice b s.buses.length e, .int .i64 s.days, .slice d s.pits.length f]
abbrev K50p2 (b : Option Addr) (s : Shop) (e : Nat) (d : Option Addr) (f : Nat) : List Plc := [⟨(K50c1 b s e d f), some 74⟩]
abbrev K50m3 (x_v10 : Int) (x_v11 : Bool) (g : Option Addr) (x_v12 : (List Int)) (j : Nat) (a_begins : Option Addr) (begins : List Int) (c_begins : Nat) : TM := [(tI 8 x_v10), (tB 7 x_v11), (tS 6 g x_v12.length j), (tP 2 0 0), (tS 1 a_begins begins.length c_begins)]
set_option maxRecDepth 100000 in
set_option maxHeartbeats 4000000 in
theorem ref_Best_rec (n : Nat) : ∀ (h : Heap) (w : World) (hh : Has h w) (s : Shop) (cs_s : List Value) (hx_s : rep h s cs_s) (begins : List Int) (a_begins : Option Addr) (c_begins : Nat) (hr_begins : RepS h a_begins c_begins begins) (r : (List Int) × Bool) (H : ref_Best n s begins = some r),
  Calls Try.prog 50 #[.agg cs_s.toArray, .slice a_begins begins.length c_begins] w (Ret (fun h v => ∃ v0 v1, v = .tuple #[v0, v1] ∧ (∃ a c, v0 = .slice a r.1.length c ∧ RepS h a c r.1) ∧ (v1 = .bool r.2)) h w) := by
 induction n using Nat.strongRecOn with
 | _ n ih =>
  intro h w hh s cs_s hx_s begins a_begins c_begins hr_begins r H
  obtain _ | n := n
  ·
   rw [ref_Best] at H; cases H
  obtain ⟨_, _, rfl, ⟨b, e, rfl, q⟩, ⟨_, _, rfl, rfl, ⟨d, f, rfl, u⟩⟩⟩ := hx_s
  refine enter 55 [.agg (K50c1 b s e d f), .c (.slice a_begins begins.length c_begins)] Try.func50 rfl rfl rfl rfl fun t hk => ?_
  have hm := Mem.begin h w hh
  rw [ref_Best] at H
  refine wp_seq (wp_region_from (wl fun K hK => ?_))
  refine wb (.agg (K50c1 b s e d f)) hk hm fun k ea ee (cz : Kn 55 [(k, 0)] [(tP 2 0 0), (tA 0 (K50c1 b s e d f)), (tS 1 a_begins begins.length c_begins)] ea) (aa : Mem ⟨w, h, noX⟩ h [(k, 0)] (K50p2 b s e d f) [] ee) => hK _ _ ?_
  refine Rk 1 2 [(tP 2 0 0), (tS 1 a_begins begins.length c_begins)] cz aa fun et c6 => ?_
  refine wf (wp_seq (wp_seq (wp_region_from (Rk 0 6 [(tB 16 (((begins.length : Nat) : Int) == ((s.buses.length : Nat) : Int))), (tP 2 0 0), (tS 1 a_begins begins.length c_begins)] c6 aa fun ey bi => ?_))))
  refine wf (wC ((((begins.length : Nat) : Int) == ((s.buses.length : Nat) : Int))) bi (fun bg => ?_) (fun bg => ?_))
  ·
   rw [bg, cond_true] at H
   refine wp_seq (wp_region_from (Rk 0 3 [(tS 19 a_begins begins.length c_begins), (tA 18 (K50c1 b s e d f)), (tS 17 a_begins begins.length c_begins)] bi aa fun e5 de => ?_))
   obtain ⟨x20, ex20, H⟩ := bnd H
   refine wl fun K hK => ?_
   refine wc [.agg (K50c1 b s e d f), .c (.slice a_begins begins.length c_begins)] de aa (ref_Fits_ok n aa.has s ((rep_pair (rep_slice q) (rep_pair rep_int (rep_slice u))) : rep h s _) begins hr_begins ex20) fun fg ek fl co dv b8 => ?_
   replace hr_begins := hr_begins.mono dv
   obtain rfl := co
   refine ⟨.one (.c (.bool x20)), rfl, fun d8 (di : Kn 55 [(k, 0)] [(tB 20 x20), (tS 19 a_begins begins.length c_begins), (tA 18 (K50c1 b s e d f)), (tS 17 a_begins begins.length c_begins)] d8) => hK _ _ ?_⟩
   refine Rk 4 2 [(tB 5 x20), (tS 4 a_begins begins.length c_begins)] di b8 fun e7 dj => ?_
   refine wf (wp_ret ?_)
   obtain rfl := Option.some.inj H
   exact rt (.tup [.c (.slice a_begins begins.length c_begins), .c (.bool x20)]) dj b8 ⟨_, _, rfl, ⟨_, _, rfl, hr_begins⟩, rfl⟩
  ·
   rw [bg, cond_false] at H
   refine wp_skip (wp_seq (wp_region_from (Rk 0 1 [(tS 6 none 0 0), (tP 2 0 0), (tS 1 a_begins begins.length c_begins)] bi aa fun e8 dk => ?_)))
   refine wf (wp_seq (wp_region_from (Rk 0 1 [(tB 7 false), (tS 6 none 0 0), (tP 2 0 0), (tS 1 a_begins begins.length c_begins)] dk aa fun e9 dl => ?_)))
   refine wf (wp_seq (wp_seq (wp_region_from (Rk 0 1 [(tI 8 (-1)), (tB 7 false), (tS 6 none 0 0), (tP 2 0 0), (tS 1 a_begins begins.length c_begins)] dl aa fun fa dm => ?_))))
   refine wf ?_
   obtain ⟨ah, bu, H⟩ := bnd H
   refine wp_mid' (fun a' w' => ∃ (aq : Option Addr) (av : Nat) (bq : Array Value) (a8 : Heap), a' = ⟨bq, []⟩ ∧ Kn 55 [(k, 0)] [(tB 7 ah.1), (tS 6 aq ah.2.length av)] bq ∧ Mem ⟨w, h, noX⟩ a8 [(k, 0)] (K50p2 b s e d f) [] w' ∧ Heap.le h a8 ∧ RepS a8 aq av ah.2) ?_ ?_
   ·
    refine wp_block ?_
    refine wp_loop_n (fun cb a' w' => ∃ (x_v10 : Int) (x_v11 : Bool) (x_v12 : (List Int)) (g : Option Addr) (j : Nat) (br : Array Value) (ae : Heap), a' = ⟨br, []⟩ ∧ Kn 55 [(k, 0)] (K50m3 x_v10 x_v11 g x_v12 j a_begins begins c_begins) br ∧ Mem ⟨w, h, noX⟩ ae [(k, 0)] (K50p2 b s e d f) [] w' ∧ Heap.le h ae ∧ RepS ae g j x_v12 ∧ cb ≤ n ∧ ref_Best_l1 cb s begins x_v10 x_v11 x_v12 = some ah) n ?_ ?_
    ·
     exact Exists.intro (-1) ⟨false, ([] : (List Int)), none, 0, _, _, rfl, dm.kp, aa, (Heap.le_refl _), RepS.nil, Nat.le_refl _, bu⟩
    ·
     rintro ab _ cf ⟨x_v10, x_v11, x_v12, g, j, br, ae, rfl, dp, ap, af, z, em, l⟩
     clear bu
     obtain _ | ab := ab
     ·
      rw [ref_Best_l1] at l; cases l
     rw [ref_Best_l1] at l
     replace q := q.mono af
     replace u := u.mono af
     replace hr_begins := hr_begins.mono af
     refine wp_seq (wp_seq (wp_region_from (Rk 0 4 ((tB 24 (decide (x_v10 < s.days))) :: (K50m3 x_v10 x_v11 g x_v12 j a_begins begins c_begins)) dp ap fun fb bk => ?_)))
     refine wf (wC (decide (x_v10 < s.days)) bk (fun bh => ?_) (fun bh => ?_))
     ·
      rw [bh, cond_true] at l
      refine wp_skip (wp_seq (wp_block (wp_seq (wp_region_G (by kernel_rfl) ?_))))
      replace ap := ap.drew
      refine wpG_of_D [] [(k, 0)] (K50p2 b s e d f) ?_
      refine Dr [0, 2, 4] [4, 2, 0] ((tI 32 x_v10) :: (tS 30 a_begins begins.length c_begins) :: (tA 28 (K50c1 b s e d f)) :: (K50m3 x_v10 x_v11 g x_v12 j a_begins begins c_begins)) bk ap fun fc dq => ?_
      obtain ⟨x31, ex31, l⟩ := bnd l
      obtain ⟨x34, ex34, l⟩ := bnd l
      obtain ⟨x35, ex35, l⟩ := bnd l
      have dw : Mem ⟨w, h, noX⟩ ae [(k, 0)] (K50p2 b s e d f) [⟨none, 0, 0, 3, 1, [], 0⟩] (World.drew cf) := ap.nilRow 3 1
      have dx : Mem ⟨w, h, noX⟩ ae [(k, 0)] (K50p2 b s e d f) [⟨none, 0, 0, 3, 1, [], 0⟩, ⟨none, 0, 0, 3, 1, [], 0⟩] (World.drew cf) := dw.nilRow 3 1
      refine D_share (FlT 55 ⟨w, h, noX⟩ [(k, 0)] (K50p2 b s e d f) (K50p2 b s e d f) [] [⟨5, 33, 3, 1, 1, [.int .i64 x_v10]⟩] [3, 1, 4, 2, 0] (fun mm bx rw => ∃ (ai : Option Addr) (al : Nat) (ac : List Value), mm = ((tS 31 ai x31.length al) :: (tI 32 x_v10) :: (tA 28 (K50c1 b s e d f)) :: (K50m3 x_v10 x_v11 g x_v12 j a_begins begins c_begins)) ∧ rw = [⟨ai, x31.length, al, 3, 1, ac, 0⟩] ∧ Heap.le ae bx ∧ Cells bx x31 ac)) ?_ (fun d2 => ?_)
      ·
       refine key_float (D_float [(6, [true])] ?_ (fun _ _ _ hm => hm.plOk) (by kernel_rfl) (by kernel_rfl) ⟨?_, trivial⟩)
       ·
        rintro _ _ _ ⟨ai, al, ac, rfl, rfl, _, _⟩
        exact ⟨⟨⟨_, _, _, rfl, rfl, rfl, rfl, rfl, by rfl, by rfl, by rfl, rfl, by kernel_rfl⟩, trivial⟩, by kernel_rfl⟩
       ·
        intro eg ei d9 aw eo er ed cq ci ca ck a2 bd
        obtain ⟨bt, rfl⟩ := len1 cq
        obtain ⟨ak, rfl⟩ := len1 ci
        obtain rfl : bt = true := by cases bt <;> first | rfl | exact (Bool.false_ne_true ca).elim
        obtain ⟨ai, al, ac, rfl, rfl, ag, cw⟩ := ck
        replace a2 := a2.req [true] (by kernel_rfl) ca rfl
        have az : Cells aw ([x_v10] : List Int) ([.int .i64 x_v10] : List Value) := ⟨_, _, rfl, (rep_int : rep aw (x_v10 : Int) _), rfl⟩
        replace a2 : Kn 55 [(k, 0)] ([(tS 31 ai x31.length al), (tI 32 x_v10), (tA 28 (K50c1 b s e d f)), (tI 8 x_v10), (tB 7 x_v11), (tS 6 g x_v12.length j), (tP 2 0 0), (tS 1 a_begins begins.length c_begins), (tS 33 ak 1 1)] ++ flM [⟨5, 33, 3, 1, 1, [.int .i64 x_v10]⟩] [true] [ak]) d9 := a2
        replace bd : Mem ⟨w, h, noX⟩ aw [(k, 0)] (K50p2 b s e d f) [⟨ai, x31.length, al, 3, 1, ac, 0⟩, ⟨ak, 1, 1, 3, 1, ([.int .i64 x_v10] : List Value), 0⟩] ed := bd
        refine ⟨_, rfl, rfl, fun K hK => ?_⟩
        obtain ⟨bp, du⟩ := app_some ex34
        refine wp_append 0 8 1 _ (x34.length) _ ([.int .i64 x_v10] : List Value) a2 bd rfl rfl (by decide) rfl (by rfl) (by kernel_rfl) (by rfl) (by rfl) (Cells.len az) (bd.rowCell (i := 1) rfl) az.one (by rw [bp]; simp <;> omega) (by rw [bp]; exact du) (by decide) fun aj am bw ce cg cy (dr : Kn 55 [(k, 0)] ([(tS 34 aj x34.length am), (tS 31 ai x31.length al), (tI 32 x_v10), (tA 28 (K50c1 b s e d f)), (tI 8 x_v10), (tB 7 x_v11), (tS 6 g x_v12.length j), (tP 2 0 0), (tS 1 a_begins begins.length c_begins), (tS 33 ak 1 1)] ++ flM [⟨5, 33, 3, 1, 1, [.int .i64 x_v10]⟩] [true] [ak]) ce) (bm : Mem ⟨w, h, noX⟩ aw [(k, 0)] (K50p2 b s e d f) [⟨aj, x34.length, am, 3, 1, (ac ++ ([.int .i64 x_v10] : List Value)), bw⟩, ⟨ak, 1, 1, 3, 1, ([.int .i64 x_v10] : List Value), 0⟩] cg) => ?_
        have a0 : Cells aw x34 (ac ++ ([.int .i64 x_v10] : List Value)) := by rw [bp]; exact Cells.append cw az
        obtain rfl : bw = 0 := Nat.le_zero.1 cy
        refine hK _ _ bm.plOk ?_
        have ds : Kn 55 [(k, 0)] ((tS 34 aj x34.length am) :: (tA 28 (K50c1 b s e d f)) :: (K50m3 x_v10 x_v11 g x_v12 j a_begins begins c_begins)) ce := dr.kp
        refine Dl 7 fun K hK => ?_
        obtain ⟨be, y, dz, bb⟩ := bm.settle (i := 0) rfl
        replace q := q.mono (Heap.le_trans ag y)
        replace u := u.mono (Heap.le_trans ag y)
        replace a0 := a0.mono y
        replace bb : Mem ⟨w, h, noX⟩ be [(k, 0)] (K50p2 b s e d f) [⟨aj, x34.length, am, 3, 1, (ac ++ ([.int .i64 x_v10] : List Value)), ((ac ++ ([.int .i64 x_v10] : List Value)) : List Value).length⟩, ⟨ak, 1, 1, 3, 1, ([.int .i64 x_v10] : List Value), 0⟩] cg := bb
        have bn : RepS be aj am x34 := ⟨_, a0, dz, bm.rowCap (i := 0) rfl⟩
        refine wc [.agg (K50c1 b s e d f), .c (.slice aj x34.length am)] ds bb (ih ab (by omega) _ _ bb.has s _ ((rep_pair (rep_slice q) (rep_pair rep_int (rep_slice u))) : rep be s _) x34 _ _ bn _ ex35) fun fd cr fh cl x p => ?_
        replace q := q.mono x
        replace u := u.mono x
        replace hr_begins := hr_begins.mono (Heap.le_trans (Heap.le_trans ag y) x)
        replace z := z.mono (Heap.le_trans (Heap.le_trans ag y) x)
        replace bn := bn.mono x
        replace a0 := a0.mono x
        replace az := az.mono (Heap.le_trans y x)
        obtain ⟨_, _, rfl, ⟨m, o, rfl, a3⟩, rfl⟩ := cl
        refine ⟨.tup [.c (.slice m x35.1.length o), .c (.bool x35.2)], rfl, fun d3 (c0 : Kn 55 [(k, 0)] ((35, .tup [.c (.slice m x35.1.length o), .c (.bool x35.2)]) :: (tS 34 aj x34.length am) :: (tA 28 (K50c1 b s e d f)) :: (K50m3 x_v10 x_v11 g x_v12 j a_begins begins c_begins)) d3) => hK _ _ p.plOk ?_⟩
        refine Dr [8, 9, 10, 11, 12] [12, 11, 10, 9, 8, 7, 6, 5, 3, 1, 4, 2, 0] ((tB 10 x35.2) :: (tS 9 m x35.1.length o) :: (K50m3 x_v10 x_v11 g x_v12 j a_begins begins c_begins)) c0 p fun es c1 => ?_
        refine wpD_end (by kernel_rfl) (wp_seq (wp_region_G (by kernel_rfl) ?_))
        replace p := p.drew
        refine wpG_of_D [] [(k, 0)] (K50p2 b s e d f) ?_
        refine Dr [0, 1] [1, 0] ((tB 39 x35.2) :: (tS 9 m x35.1.length o) :: (K50m3 x_v10 x_v11 g x_v12 j a_begins begins c_begins)) c1 p fun cc bz => ?_
        rcases Bool.eq_false_or_eq_true (x35.2) with ax | ax
        ·
         rw [ax, cond_true] at l
         have c2 : Kn 55 [(k, 0)] ((tB 39 true) :: (tS 9 m x35.1.length o) :: (K50m3 x_v10 x_v11 g x_v12 j a_begins begins c_begins)) cc := (bz.setB 39 true (by rfl) ax).kp
         refine Dr [2, 3, 4] (dn 4) ((tB 42 (!x_v11)) :: (tB 39 true) :: (tS 9 m x35.1.length o) :: (K50m3 x_v10 x_v11 g x_v12 j a_begins begins c_begins)) c2 p fun cd b0 => ?_
         rcases Bool.eq_false_or_eq_true ((!x_v11)) with ay | ay
         ·
          rw [ay, cond_true] at l
          have c3 : Kn 55 [(k, 0)] ((tB 42 true) :: (tB 39 true) :: (tS 9 m x35.1.length o) :: (K50m3 x_v10 x_v11 g x_v12 j a_begins begins c_begins)) cd := (b0.setB 42 true (by rfl) ay).kp
          refine Dr [5, 6, 7, 8, 9, 10, 11, 12, 13] (dn 13) ((tB 51 true) :: (tS 9 m x35.1.length o) :: (K50m3 x_v10 x_v11 g x_v12 j a_begins begins c_begins)) c3 p fun eu b1 => ?_
          refine wpD_end (by kernel_rfl) (wC true b1 (fun hb => ?_) (fun hb => ?_))
          rotate_left
          ·
           cases hb
          refine wp_region_from (Rk 0 3 [(tB 7 true), (tS 6 m x35.1.length o), (tI 8 x_v10), (tP 2 0 0), (tS 1 a_begins begins.length c_begins)] b1 p fun ev c4 => ?_)
          refine wf (wp_region_from (Rk 0 3 [(tI 8 (IntKind.i64.wrap (x_v10 + 1))), (tB 7 true), (tS 6 m x35.1.length o), (tP 2 0 0), (tS 1 a_begins begins.length c_begins)] c4 p fun ew c5 => ?_))
          refine wf ?_
          exact Exists.intro ab ⟨Nat.lt_succ_self _, Exists.intro (IntKind.i64.wrap (x_v10 + 1)) ⟨true, x35.1, m, o, _, _, rfl, c5.kp, (p.cutRw 0), (Heap.le_trans af (Heap.le_trans ag (Heap.le_trans y x))), a3, (by omega), l⟩⟩
         ·
          rw [ay, cond_false] at l
          have c7 : Kn 55 [(k, 0)] ((tB 42 false) :: (tB 39 true) :: (tS 9 m x35.1.length o) :: (K50m3 x_v10 x_v11 g x_v12 j a_begins begins c_begins)) cd := (b0.setB 42 false (by rfl) ay).kp
          refine Dr [5, 6, 8, 9] [9, 8, 6, 5, 4, 3, 2, 1, 0] ((tS 47 g x_v12.length j) :: (tA 46 (K50c1 b s e d f)) :: (tS 44 m x35.1.length o) :: (tA 43 (K50c1 b s e d f)) :: (tB 42 false) :: (tB 39 true) :: (tS 9 m x35.1.length o) :: (K50m3 x_v10 x_v11 g x_v12 j a_begins begins c_begins)) c7 p fun ex b2 => ?_
          obtain ⟨x45, ex45, l⟩ := bnd l
          refine D_loud 7 rfl (by kernel_rfl) (by decide) (wantedS_sound b2 (by kernel_rfl)) fun K hK => ?_
          refine wc [.agg (K50c1 b s e d f), .c (.slice m x35.1.length o)] b2 p (ref_Cost_ok ab p.has s ((rep_pair (rep_slice q) (rep_pair rep_int (rep_slice u))) : rep cr s _) x35.1 a3 ex45) fun fe cs fi cm ao bl => ?_
          replace q := q.mono ao
          replace u := u.mono ao
          replace z := z.mono ao
          obtain rfl := cm
          refine ⟨.one (.c (.int .i64 x45)), rfl, fun d4 (b3 : Kn 55 [(k, 0)] ((tI 45 x45) :: (tS 47 g x_v12.length j) :: (tA 46 (K50c1 b s e d f)) :: (tS 44 m x35.1.length o) :: (tA 43 (K50c1 b s e d f)) :: (tB 42 false) :: (tB 39 true) :: (tS 9 m x35.1.length o) :: (K50m3 x_v10 x_v11 g x_v12 j a_begins begins c_begins)) d4) => hK _ _ bl.plOk ?_⟩
          obtain ⟨x48, ex48, l⟩ := bnd l
          refine D_loud 10 rfl (by kernel_rfl) (by decide) (wantedS_sound b3 (by kernel_rfl)) fun K hK => ?_
          refine wc [.agg (K50c1 b s e d f), .c (.slice g x_v12.length j)] b3 bl (ref_Cost_ok ab bl.has s ((rep_pair (rep_slice q) (rep_pair rep_int (rep_slice u))) : rep cs s _) x_v12 z ex48) fun ff ej fj cn ba an => ?_
          replace z := z.mono ba
          replace a3 := a3.mono (Heap.le_trans ao ba)
          obtain rfl := cn
          refine ⟨.one (.c (.int .i64 x48)), rfl, fun d5 (c8 : Kn 55 [(k, 0)] ((tI 48 x48) :: (tI 45 x45) :: (tS 47 g x_v12.length j) :: (tA 46 (K50c1 b s e d f)) :: (tS 44 m x35.1.length o) :: (tA 43 (K50c1 b s e d f)) :: (tB 42 false) :: (tB 39 true) :: (tS 9 m x35.1.length o) :: (K50m3 x_v10 x_v11 g x_v12 j a_begins begins c_begins)) d5) => hK _ _ an.plOk ?_⟩
          refine Dr [11, 12, 13] [13, 12, 11, 10, 7, 9, 8, 6, 5, 4, 3, 2, 1, 0] ((tB 51 (decide (x45 < x48))) :: (tS 9 m x35.1.length o) :: (K50m3 x_v10 x_v11 g x_v12 j a_begins begins c_begins)) c8 an fun ez bj => ?_
          refine wpD_end (by kernel_rfl) (wC (decide (x45 < x48)) bj (fun bf => ?_) (fun bf => ?_))
          ·
           rw [bf, cond_true] at l
           refine wp_region_from (Rk 0 3 [(tB 7 true), (tS 6 m x35.1.length o), (tI 8 x_v10), (tP 2 0 0), (tS 1 a_begins begins.length c_begins)] bj an fun e0 c9 => ?_)
           refine wf (wp_region_from (Rk 0 3 [(tI 8 (IntKind.i64.wrap (x_v10 + 1))), (tB 7 true), (tS 6 m x35.1.length o), (tP 2 0 0), (tS 1 a_begins begins.length c_begins)] c9 an fun e1 da => ?_))
           refine wf ?_
           exact Exists.intro ab ⟨Nat.lt_succ_self _, Exists.intro (IntKind.i64.wrap (x_v10 + 1)) ⟨true, x35.1, m, o, _, _, rfl, da.kp, (an.cutRw 0), (Heap.le_trans af (Heap.le_trans ag (Heap.le_trans y (Heap.le_trans x (Heap.le_trans ao ba))))), a3, (by omega), l⟩⟩
          ·
           rw [bf, cond_false] at l
           refine wp_skip (wp_region_from (Rk 0 3 [(tI 8 (IntKind.i64.wrap (x_v10 + 1))), (tB 7 x_v11), (tS 6 g x_v12.length j), (tP 2 0 0), (tS 1 a_begins begins.length c_begins)] bj an fun e2 db => ?_))
           refine wf ?_
           exact Exists.intro ab ⟨Nat.lt_succ_self _, Exists.intro (IntKind.i64.wrap (x_v10 + 1)) ⟨x_v11, x_v12, g, j, _, _, rfl, db.kp, (an.cutRw 0), (Heap.le_trans af (Heap.le_trans ag (Heap.le_trans y (Heap.le_trans x (Heap.le_trans ao ba))))), z, (by omega), l⟩⟩
        ·
         rw [ax, cond_false] at l
         have dc : Kn 55 [(k, 0)] ((tB 39 false) :: (tS 9 m x35.1.length o) :: (K50m3 x_v10 x_v11 g x_v12 j a_begins begins c_begins)) cc := (bz.setB 39 false (by rfl) ax).kp
         refine Dr [2, 3, 4, 5, 6, 7, 8, 9, 10, 11, 12, 13] (dn 13) ((tB 51 false) :: (tS 9 m x35.1.length o) :: (K50m3 x_v10 x_v11 g x_v12 j a_begins begins c_begins)) dc p fun e3 b4 => ?_
         refine wpD_end (by kernel_rfl) (wC false b4 (fun hb => ?_) (fun hb => ?_))
         ·
          cases hb
         refine wp_skip (wp_region_from (Rk 0 3 [(tI 8 (IntKind.i64.wrap (x_v10 + 1))), (tB 7 x_v11), (tS 6 g x_v12.length j), (tP 2 0 0), (tS 1 a_begins begins.length c_begins)] b4 p fun e4 dd => ?_))
         refine wf ?_
         exact Exists.intro ab ⟨Nat.lt_succ_self _, Exists.intro (IntKind.i64.wrap (x_v10 + 1)) ⟨x_v11, x_v12, g, j, _, _, rfl, dd.kp, (p.cutRw 0), (Heap.le_trans af (Heap.le_trans ag (Heap.le_trans y x))), z, (by omega), l⟩⟩
      refine D_share (FlT 55 ⟨w, h, noX⟩ [(k, 0)] (K50p2 b s e d f) (K50p2 b s e d f) [] [⟨1, 29, 3, 1, 0, []⟩, ⟨5, 33, 3, 1, 1, [.int .i64 x_v10]⟩] [4, 2, 0] (fun mm ct rw => mm = ((tI 32 x_v10) :: (tS 30 a_begins begins.length c_begins) :: (tA 28 (K50c1 b s e d f)) :: (K50m3 x_v10 x_v11 g x_v12 j a_begins begins c_begins)) ∧ rw = [] ∧ Heap.le ae ct)) ?_ (fun d1 => ?_)
      ·
       refine key_float (D_float [(3, [true, false])] ?_ (fun _ _ _ hm => hm.plOk) (by kernel_rfl) (by kernel_rfl) ⟨?_, trivial⟩)
       ·
        rintro _ _ _ ⟨rfl, rfl, _⟩
        exact ⟨⟨⟨_, _, _, rfl, rfl, rfl, rfl, rfl, by rfl, by rfl, by rfl, rfl, by kernel_rfl⟩, ⟨⟨_, _, _, rfl, rfl, rfl, rfl, rfl, by rfl, by rfl, by rfl, rfl, by kernel_rfl⟩, trivial⟩⟩, by kernel_rfl⟩
       ·
        intro ef eh d6 a7 en ep eb cp ch b9 cj a1 bc
        obtain ⟨bs, ad, rfl⟩ := len2 cp
        obtain ⟨ar, au, rfl⟩ := len2 ch
        obtain rfl : bs = true := by cases bs <;> first | rfl | exact (Bool.false_ne_true b9).elim
        obtain ⟨rfl, rfl, b5⟩ := cj
        replace hr_begins := hr_begins.mono b5
        replace a1 := a1.req [true, false] (by kernel_rfl) b9 rfl
        have cu : Cells a7 ([] : List Int) ([] : List Value) := Cells.nil
        replace a1 : Kn 55 [(k, 0)] ([(tI 32 x_v10), (tS 30 a_begins begins.length c_begins), (tA 28 (K50c1 b s e d f)), (tI 8 x_v10), (tB 7 x_v11), (tS 6 g x_v12.length j), (tP 2 0 0), (tS 1 a_begins begins.length c_begins), (tS 29 ar 0 0)] ++ flM [⟨1, 29, 3, 1, 0, []⟩, ⟨5, 33, 3, 1, 1, [.int .i64 x_v10]⟩] [true, ad] [ar, au]) d6 := a1
        replace bc : Mem ⟨w, h, noX⟩ a7 [(k, 0)] (K50p2 b s e d f) [⟨ar, 0, 0, 3, 1, ([] : List Value), 0⟩, (flr [(k, 0)] ⟨5, 33, 3, 1, 1, [.int .i64 x_v10]⟩ ad au)] eb := bc
        refine ⟨_, rfl, rfl, fun K hK => ?_⟩
        obtain ⟨a4, a9, d0, _⟩ := id hr_begins
        obtain ⟨bo, dt⟩ := app_some ex31
        refine wp_append 0 8 begins.length _ (x31.length) _ a4 a1 bc rfl rfl (by decide) rfl (by rfl) (by kernel_rfl) (by rfl) (by rfl) (Cells.len a9) (d0.cell bc.has a9.one) a9.one (by rw [bo]; simp <;> omega) (by rw [bo]; exact dt) (by decide) fun a5 a6 bv d7 ec cx (df : Kn 55 [(k, 0)] ([(tS 31 a5 x31.length a6), (tI 32 x_v10), (tS 30 a_begins begins.length c_begins), (tA 28 (K50c1 b s e d f)), (tI 8 x_v10), (tB 7 x_v11), (tS 6 g x_v12.length j), (tP 2 0 0), (tS 1 a_begins begins.length c_begins), (tS 29 ar 0 0)] ++ flM [⟨1, 29, 3, 1, 0, []⟩, ⟨5, 33, 3, 1, 1, [.int .i64 x_v10]⟩] [true, ad] [ar, au]) d7) (b6 : Mem ⟨w, h, noX⟩ a7 [(k, 0)] (K50p2 b s e d f) [⟨a5, x31.length, a6, 3, 1, (([] : List Value) ++ a4), bv⟩, (flr [(k, 0)] ⟨5, 33, 3, 1, 1, [.int .i64 x_v10]⟩ ad au)] ec) => ?_
        have cv : Cells a7 x31 (([] : List Value) ++ a4) := by rw [bo]; exact Cells.append cu a9
        obtain rfl : bv = 0 := Nat.le_zero.1 cx
        refine hK _ _ b6.plOk ?_
        refine D_perm (flD [⟨5, 33, 3, 1, 1, [.int .i64 x_v10]⟩] [ad] ++ [3, 1, 4, 2, 0]) (by cases ad <;> kernel_rfl) (by cases ad <;> rfl) (d2 [ad] _ _ ⟨[au], _, _, _, [⟨a5, x31.length, a6, 3, 1, (([] : List Value) ++ a4), 0⟩], rfl, rfl, rfl, ⟨a5, a6, (([] : List Value) ++ a4), rfl, rfl, b5, cv⟩, df.next [false, true] _ (by kernel_rfl) (by rfl) (by kernel_rfl), b6.pickRows [0, 1] (by kernel_rfl) (by kernel_rfl)⟩)
      exact d1 [false, false] _ _ ⟨[none, none], _, _, ((tI 32 x_v10) :: (tS 30 a_begins begins.length c_begins) :: (tA 28 (K50c1 b s e d f)) :: (K50m3 x_v10 x_v11 g x_v12 j a_begins begins c_begins)), [], rfl, rfl, rfl, ⟨rfl, rfl, (Heap.le_refl _)⟩, dq.kp, dx⟩
     ·
      rw [bh, cond_false] at l
      refine wp_exit ?_
      obtain rfl := Option.some.inj l
      exact Exists.intro g ⟨j, _, _, rfl, bk.kp, ap, af, z⟩
   ·
    rintro _ fk ⟨aq, av, bq, a8, rfl, dg, b7, el, dy⟩
    refine wp_seq (wp_region_from (Rk 0 4 [(tB 5 ah.1), (tS 4 aq ah.2.length av)] dg b7 fun e6 dh => ?_))
    refine wf (wp_ret ?_)
    obtain rfl := Option.some.inj H
    exact rt (.tup [.c (.slice aq ah.2.length av), .c (.bool ah.1)]) dh b7 ⟨_, _, rfl, ⟨_, _, rfl, dy⟩, rfl⟩
theorem ref_Best_ok (n : Nat) {h : Heap} {w : World} (hh : Has h w) (s : Shop) {cs_s : List Value} (hx_s : rep h s cs_s) (begins : List Int) {a_begins : Option Addr} {c_begins : Nat} (hr_begins : RepS h a_begins c_begins begins) {r : (List Int) × Bool} (H : ref_Best n s begins = some r) :
  Calls Try.prog 50 #[.agg cs_s.toArray, .slice a_begins begins.length c_begins] w (Ret (fun h v => ∃ v0 v1, v = .tuple #[v0, v1] ∧ (∃ a c, v0 = .slice a r.1.length c ∧ RepS h a c r.1) ∧ (v1 = .bool r.2)) h w) := ref_Best_rec n h w hh s cs_s hx_s begins a_begins c_begins hr_begins r H
end Go.Proofs.Ytkbphdjemgibnaa
