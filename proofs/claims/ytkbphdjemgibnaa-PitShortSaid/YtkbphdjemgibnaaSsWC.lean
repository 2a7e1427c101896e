/- Each call computes its plain function. -/
import Derived.Test.YtkbphdjemgibnaaProg
import Derived.Test.YtkbphdjemgibnaaSsP0
import Derived.Test.YtkbphdjemgibnaaSsWA
import Derived.Test.YtkbphdjemgibnaaSsWB
set_option linter.all false
namespace Go.Proofs.Ytkbphdjemgibnaa
open Go Go.RowKit
open Rep (rep)
open KRep (kv)
open VRep (rv)
abbrev K42c1 : List SC := [.slice none 0 0, .int .i64 0, .slice none 0 0]
abbrev K42c2 (x23 : Job) : List SC := [.int .i64 x23.due, .int .i64 x23.work, .int .i64 x23.cost]
abbrev K42c3 (x29 : Job) : List SC := [.int .i64 x29.due, .int .i64 x29.work, .int .i64 x29.cost]
abbrev K42c4 (x35 : Job) : List SC := [.int .i64 x35.due, .int .i64 x35.work, .int .i64 x35.cost]
abbrev K42c5 (s : Shop) (l : Option Addr) (x9 : List Int) (p : Nat) : List SC := [.slice none 0 0, .int .i64 s.days, .slice l x9.length p]
abbrev K42c6 (y : Option Addr) (x : List Job) (z : Nat) (s : Shop) (l : Option Addr) (x9 : List Int) (p : Nat) : List SC := [.slice y x.length z, .int .i64 s.days, .slice l x9.length p]
abbrev K42c7 (g : Option Addr) (s : Shop) (k : Nat) (e : Option Addr) (f : Nat) : List SC := [.slice g s.buses.length k, .int .i64 s.days, .slice e s.pits.length f]
abbrev K42e8 (a d m ab ac : Nat) (x_v11 : Int) (ae af ah ai : Nat) : Env := [(a, 0), (d, 0), (m, 0), (ab, ac + (x_v11 : Int).toNat * 3), (ae, af + (x_v11 : Int).toNat * 3), (ah, ai + (x_v11 : Int).toNat * 3)]
abbrev K42p9 (g : Option Addr) (s : Shop) (k : Nat) (e : Option Addr) (f : Nat) : List Plc := [⟨(K42c7 g s k e f), some 74⟩, ⟨K42c1, some 79⟩, ⟨K42c1, some 79⟩]
abbrev K42m10 (q : Option Addr) (x_v10 : List Job) (u : Nat) (x_v11 : Int) : TM := [(tS 19 q x_v10.length u), (tI 4 x_v11), (tP 3 2 0), (tP 2 1 0), (tP 1 0 0)]
abbrev K42m11 : TM := [(tP 2 1 0), (tP 1 0 0)]
set_option maxRecDepth 100000 in
set_option maxHeartbeats 4000000 in
theorem law_Shop_ok (n : Nat) {h : Heap} {w : World} (hh : Has h w) (s : Shop) {cs_s : List Value} (hx_s : rep h s cs_s) {r : Shop} (H : law_Shop n s = some r) :
  Calls Try.prog 42 #[.agg cs_s.toArray] w (Ret (fun h v => ∃ cs, v = .agg cs.toArray ∧ rep h r cs) h w) := by
 obtain ⟨_, _, rfl, ⟨g, k, rfl, an⟩, ⟨_, _, rfl, rfl, ⟨e, f, rfl, a0⟩⟩⟩ := hx_s
 refine enter 43 [.agg (K42c7 g s k e f)] Try.func42 rfl rfl rfl rfl fun t hk => ?_
 have hm := Mem.begin h w hh
 unfold law_Shop at H
 refine wp_seq (wp_region_from (wl fun K hK => ?_))
 refine wb (.agg (K42c7 g s k e f)) hk hm fun a ef em (ch : Kn 43 [(a, 0)] [(tP 1 0 0), (tA 0 (K42c7 g s k e f))] ef) (di : Mem ⟨w, h, noX⟩ h [(a, 0)] [⟨(K42c7 g s k e f), some 74⟩] [] em) => hK _ _ ?_
 refine wl fun K hK => ?_
 refine wa K42c1 ch di fun d b1 b2 (cv : Kn 43 [(a, 0), (d, 0)] [(tP 2 1 0), (tP 1 0 0), (tA 0 (K42c7 g s k e f))] b1) (az : Mem ⟨w, h, noX⟩ h [(a, 0), (d, 0)] [⟨(K42c7 g s k e f), some 74⟩, ⟨K42c1, some 79⟩] [] b2) => hK _ _ ?_
 have cz : Kn 43 [(a, 0), (d, 0)] K42m11 b1 := cv.kp
 refine wf (wp_seq (wp_region_G (by kernel_rfl) ?_))
 replace az := az.drew
 refine wpG_of_D [] [(a, 0), (d, 0)] [⟨(K42c7 g s k e f), some 74⟩, ⟨K42c1, some 79⟩] ?_
 refine Dr [0, 1, 2, 3] (dn 3) ((tS 8 e s.pits.length f) :: (tI 6 s.days) :: K42m11) cz az fun ec c3 => ?_
 obtain ⟨x9, ex9, H⟩ := bnd H
 have bq : Kn 43 [(a, 0), (d, 0), (0, 0)] ((tS 8 e s.pits.length f) :: (tI 6 s.days) :: K42m11) ec := c3.push (0, 0) (by kernel_rfl)
 have be : Mem ⟨w, h, noX⟩ h [(a, 0), (d, 0), (0, 0)] [⟨(K42c7 g s k e f), some 74⟩, ⟨K42c1, some 79⟩, ⟨[], none⟩] [] (World.drew b2) := az.addPlc (b := 0) (o := 0) (cs := []) (fun j c hj => by simp at hj) rfl (by kernel_rfl) (by kernel_rfl)
 refine D_ext (e' := [(a, 0), (d, 0), (0, 0)]) (pl' := [⟨(K42c7 g s k e f), some 74⟩, ⟨K42c1, some 79⟩, ⟨[], none⟩]) (fun _ hp => hp.pop (Nat.le_of_eq rfl) (by kernel_rfl)) ?_
 refine D_share (fun W => ∀ (m : Nat), ∀ (l : Option Addr), ∀ (p : Nat), ∀ a' w', (∃ (a1 : Array Value) (aj : Heap), a' = ⟨a1, []⟩ ∧ Kn 43 [(a, 0), (d, 0), (m, 0)] ((tP 3 2 0) :: (tA 10 (K42c5 s l x9 p)) :: K42m11) a1 ∧ Mem ⟨w, h, noX⟩ aj [(a, 0), (d, 0), (m, 0)] (K42p9 g s k e f) [] w' ∧ Heap.le h aj ∧ RepS aj l p x9) → W [(a, 0), (d, 0), (m, 0)] (K42p9 g s k e f) [5, 4, 6, 3, 2, 1, 0] a' w') ?_ (fun b0 => ?_)
 ·
  intro m l p
  rintro _ e6 ⟨a1, aj, rfl, c4, dj, bs, bh⟩
  replace an := an.mono bs
  replace a0 := a0.mono bs
  refine D_sync 7 rfl (by kernel_rfl) (by decide) (rfl) (by kernel_rfl) fun K hK => ?_
  refine wst 2 0 (.agg (K42c5 s l x9 p)) (K42c5 s l x9 p) c4 dj fun b4 c5 (bz : Mem ⟨w, h, noX⟩ aj [(a, 0), (d, 0), (m, 0)] [⟨(K42c7 g s k e f), some 74⟩, ⟨K42c1, some 79⟩, ⟨(K42c5 s l x9 p), some 79⟩] [] b4) => hK _ _ ?_
  refine wpG_of_D [] [(a, 0), (d, 0), (m, 0)] [⟨(K42c7 g s k e f), some 74⟩, ⟨K42c1, some 79⟩, ⟨(K42c5 s l x9 p), some 79⟩] ?_
  have c6 : Kn 43 [(a, 0), (d, 0), (m, 0)] ((tP 3 2 0) :: K42m11) a1 := c5.kp
  refine wpD_end (by kernel_rfl) (wp_seq (wp_seq (wp_region_from (Rk 0 1 ((tI 4 0) :: (tP 3 2 0) :: K42m11) c6 bz fun ew c7 => ?_))))
  refine wf ?_
  have dk : Mem ⟨w, h, noX⟩ aj [(a, 0), (d, 0), (m, 0)] [⟨(K42c7 g s k e f), some 74⟩, ⟨K42c1, some 79⟩, ⟨(K42c5 s l x9 p), some 79⟩] [⟨none, 0, 0, 120, 3, [], 0⟩] b4 := bz.nilRow 120 3
  have cd : Cells aj ([] : List Job) [] := Cells.nil
  obtain ⟨x, bn, H⟩ := bnd H
  refine wp_mid' (fun a' w' => ∃ (y : Option Addr) (z : Nat) (ao : List Value) (bk : Array Value) (av : Heap), a' = ⟨bk, []⟩ ∧ Kn 43 [(a, 0), (d, 0), (m, 0)] [(tP 3 2 0), (tP 2 1 0)] bk ∧ Mem ⟨w, h, noX⟩ av [(a, 0), (d, 0), (m, 0)] [⟨(K42c7 g s k e f), some 74⟩, ⟨K42c1, some 79⟩, ⟨(K42c6 y x z s l x9 p), some 79⟩] [⟨y, x.length, z, 120, 3, ao, 0⟩] w' ∧ Heap.le aj av ∧ Cells av x ao) ?_ ?_
  ·
   refine wp_block ?_
   refine wp_loop_n (fun d3 a' w' => ∃ (x_v10 : List Job) (x_v11 : Int) (q : Option Addr) (u : Nat) (ag : List Value) (bl : Array Value) (ad : Heap), a' = ⟨bl, []⟩ ∧ Kn 43 [(a, 0), (d, 0), (m, 0)] ((tI 4 x_v11) :: (tP 3 2 0) :: K42m11) bl ∧ Mem ⟨w, h, noX⟩ ad [(a, 0), (d, 0), (m, 0)] [⟨(K42c7 g s k e f), some 74⟩, ⟨K42c1, some 79⟩, ⟨[.slice q x_v10.length u, .int .i64 s.days, .slice l x9.length p], some 79⟩] [⟨q, x_v10.length, u, 120, 3, ag, 0⟩] w' ∧ Heap.le aj ad ∧ Cells ad x_v10 ag ∧ law_Shop_l1 d3 s x_v10 x_v11 = some x) n ?_ ?_
   ·
    exact Exists.intro ([] : List Job) ⟨0, none, 0, ([]), _, _, rfl, c7.kp, dk, (Heap.le_refl _), cd, bn⟩
   ·
    rintro bj _ bm ⟨x_v10, x_v11, q, u, ag, bl, ad, rfl, c8, am, a7, bp, aa⟩
    clear bn
    obtain _ | bj := bj
    ·
     rw [law_Shop_l1] at aa; cases aa
    rw [law_Shop_l1] at aa
    replace an := an.mono a7
    refine wp_seq (wp_seq (wp_region_from (Rk 0 5 ((tB 15 (decide (x_v11 < ((s.buses.length : Nat) : Int)))) :: (tI 4 x_v11) :: (tP 3 2 0) :: K42m11) c8 am fun ex a6 => ?_)))
    refine wf (wC (decide (x_v11 < ((s.buses.length : Nat) : Int))) a6 (fun a3 => ?_) (fun a3 => ?_))
    ·
     rw [a3, cond_true] at aa
     refine wp_skip (wp_seq (wp_block (wp_region_G (by kernel_rfl) ?_)))
     replace am := am.drew
     refine wpG_of_D [] [(a, 0), (d, 0), (m, 0)] [⟨(K42c7 g s k e f), some 74⟩, ⟨K42c1, some 79⟩, ⟨[.slice q x_v10.length u, .int .i64 s.days, .slice l x9.length p], some 79⟩] ?_
     refine Dr [0, 1, 2, 3, 4] (dn 4) ((tI 22 x_v11) :: (tS 21 g s.buses.length k) :: (K42m10 q x_v10 u x_v11)) a6 am fun ey c9 => ?_
     obtain ⟨x23, ex23, aa⟩ := bnd aa
     obtain ⟨dm, dr, d1⟩ := idx_some ex23
     obtain ⟨ab, ac, en, b8, dy, ce⟩ := an.get (by decide) d1
     obtain ⟨_, _, rfl, rfl, ⟨_, _, rfl, rfl, rfl⟩⟩ := dy
     have bf : Mem ⟨w, h, noX⟩ ad [(a, 0), (d, 0), (m, 0), (ab, ac + (x_v11 : Int).toNat * 3)] [⟨(K42c7 g s k e f), some 74⟩, ⟨K42c1, some 79⟩, ⟨[.slice q x_v10.length u, .int .i64 s.days, .slice l x9.length p], some 79⟩, ⟨(K42c2 x23), none⟩] [⟨q, x_v10.length, u, 120, 3, ag, 0⟩] (World.drew bm) := am.addPlc (cs := (K42c2 x23)) (fun j c hj => ce j _ (map_get hj)) rfl (by kernel_rfl) (by kernel_rfl)
     refine D_index 5 (x_v11) (K42c2 x23) (fun _ _ _ _ _ h => h) rfl rfl (rfl) rfl (by decide) (by kernel_rfl) (by kernel_rfl) c9 am.plOk (by rfl) (by rfl) (by rfl) b8 (by rfl) dm dr (by kernel_rfl) fun ee (da : Kn 43 [(a, 0), (d, 0), (m, 0), (ab, ac + (x_v11 : Int).toNat * 3)] ((tP 23 3 0) :: (tI 22 x_v11) :: (tS 21 g s.buses.length k) :: (K42m10 q x_v10 u x_v11)) ee) => ?_
     refine Dr [6, 7, 8, 9, 10] (dn 10) ((tI 28 x_v11) :: (tS 27 g s.buses.length k) :: (tI 25 x23.due) :: (K42m10 q x_v10 u x_v11)) da bf fun ez db => ?_
     obtain ⟨x29, ex29, aa⟩ := bnd aa
     obtain ⟨dp, ds, d2⟩ := idx_some ex29
     obtain ⟨ae, af, eo, b9, dz, cf⟩ := an.get (by decide) d2
     obtain ⟨_, _, rfl, rfl, ⟨_, _, rfl, rfl, rfl⟩⟩ := dz
     have bg : Mem ⟨w, h, noX⟩ ad [(a, 0), (d, 0), (m, 0), (ab, ac + (x_v11 : Int).toNat * 3), (ae, af + (x_v11 : Int).toNat * 3)] [⟨(K42c7 g s k e f), some 74⟩, ⟨K42c1, some 79⟩, ⟨[.slice q x_v10.length u, .int .i64 s.days, .slice l x9.length p], some 79⟩, ⟨(K42c2 x23), none⟩, ⟨(K42c3 x29), none⟩] [⟨q, x_v10.length, u, 120, 3, ag, 0⟩] (World.drew bm) := bf.addPlc (cs := (K42c3 x29)) (fun j c hj => cf j _ (map_get hj)) rfl (by kernel_rfl) (by kernel_rfl)
     refine D_index 11 (x_v11) (K42c3 x29) (fun _ _ _ _ _ h => h) rfl rfl (rfl) rfl (by decide) (by kernel_rfl) (by kernel_rfl) db bf.plOk (by rfl) (by rfl) (by rfl) b9 (by rfl) dp ds (by kernel_rfl) fun eg (dc : Kn 43 [(a, 0), (d, 0), (m, 0), (ab, ac + (x_v11 : Int).toNat * 3), (ae, af + (x_v11 : Int).toNat * 3)] ((tP 29 4 0) :: (tI 28 x_v11) :: (tS 27 g s.buses.length k) :: (tI 25 x23.due) :: (K42m10 q x_v10 u x_v11)) eg) => ?_
     refine Dr [12, 13, 14, 15, 16] (dn 16) ((tI 34 x_v11) :: (tS 33 g s.buses.length k) :: (tI 31 x29.work) :: (tI 25 x23.due) :: (K42m10 q x_v10 u x_v11)) dc bg fun e0 dd => ?_
     obtain ⟨x35, ex35, aa⟩ := bnd aa
     obtain ⟨dl, dq, d0⟩ := idx_some ex35
     obtain ⟨ah, ai, ep, ca, dx, cb⟩ := an.get (by decide) d0
     obtain ⟨_, _, rfl, rfl, ⟨_, _, rfl, rfl, rfl⟩⟩ := dx
     have bt : Mem ⟨w, h, noX⟩ ad (K42e8 a d m ab ac x_v11 ae af ah ai) [⟨(K42c7 g s k e f), some 74⟩, ⟨K42c1, some 79⟩, ⟨[.slice q x_v10.length u, .int .i64 s.days, .slice l x9.length p], some 79⟩, ⟨(K42c2 x23), none⟩, ⟨(K42c3 x29), none⟩, ⟨(K42c4 x35), none⟩] [⟨q, x_v10.length, u, 120, 3, ag, 0⟩] (World.drew bm) := bg.addPlc (cs := (K42c4 x35)) (fun j c hj => cb j _ (map_get hj)) rfl (by kernel_rfl) (by kernel_rfl)
     refine D_index 17 (x_v11) (K42c4 x35) (fun _ _ _ _ _ h => h) rfl rfl (rfl) rfl (by decide) (by kernel_rfl) (by kernel_rfl) dd bg.plOk (by rfl) (by rfl) (by rfl) ca (by rfl) dl dq (by kernel_rfl) fun d4 (ci : Kn 43 (K42e8 a d m ab ac x_v11 ae af ah ai) ((tP 35 5 0) :: (tI 34 x_v11) :: (tS 33 g s.buses.length k) :: (tI 31 x29.work) :: (tI 25 x23.due) :: (K42m10 q x_v10 u x_v11)) d4) => ?_
     refine Dr [18, 19, 20] (dn 20) ((tA 38 [.int .i64 x23.due, .int .i64 x29.work, .int .i64 x35.cost]) :: (K42m10 q x_v10 u x_v11)) ci bt fun es cj => ?_
     refine Dl 21 fun K hK => ?_
     refine wS 120 3 [.int .i64 x23.due, .int .i64 x29.work, .int .i64 x35.cost] cj bt fun ap d5 eh (ck : Kn 43 (K42e8 a d m ab ac x_v11 ae af ah ai) ((tS 39 ap 1 1) :: (tA 38 [.int .i64 x23.due, .int .i64 x29.work, .int .i64 x35.cost]) :: (K42m10 q x_v10 u x_v11)) d5) (a8 : Mem ⟨w, h, noX⟩ ad (K42e8 a d m ab ac x_v11 ae af ah ai) [⟨(K42c7 g s k e f), some 74⟩, ⟨K42c1, some 79⟩, ⟨[.slice q x_v10.length u, .int .i64 s.days, .slice l x9.length p], some 79⟩, ⟨(K42c2 x23), none⟩, ⟨(K42c3 x29), none⟩, ⟨(K42c4 x35), none⟩] [⟨q, x_v10.length, u, 120, 3, ag, 0⟩, ⟨ap, 1, 1, 120, 3, ([.int .i64 x23.due, .int .i64 x29.work, .int .i64 x35.cost] : List Value), 0⟩] eh) => ?_
     have a4 : Cells ad ([(Job.mk x23.due x29.work x35.cost)] : List Job) ([.int .i64 x23.due, .int .i64 x29.work, .int .i64 x35.cost] : List Value) := ⟨_, _, rfl, ((rep_pair rep_int (rep_pair rep_int rep_int)) : rep ad ((Job.mk x23.due x29.work x35.cost) : Job) _), rfl⟩
     refine hK _ _ a8.plOk ?_
     obtain ⟨x40, ex40, aa⟩ := bnd aa
     obtain ⟨bi, de⟩ := app_some ex40
     refine Dl 22 fun K hK => ?_
     refine wp_append 0 24 1 _ (x40.length) _ ([.int .i64 x23.due, .int .i64 x29.work, .int .i64 x35.cost] : List Value) ck a8 rfl rfl (by decide) rfl (by rfl) (by kernel_rfl) (by rfl) (by rfl) (Cells.len a4) (a8.rowCell (i := 1) rfl) a4.one (by rw [bi]; simp <;> omega) (by rw [bi]; exact de) (by decide) fun ak al bo d6 ei cg (cl : Kn 43 (K42e8 a d m ab ac x_v11 ae af ah ai) ((tS 40 ak x40.length al) :: (tS 39 ap 1 1) :: (tA 38 [.int .i64 x23.due, .int .i64 x29.work, .int .i64 x35.cost]) :: (K42m10 q x_v10 u x_v11)) d6) (a9 : Mem ⟨w, h, noX⟩ ad (K42e8 a d m ab ac x_v11 ae af ah ai) [⟨(K42c7 g s k e f), some 74⟩, ⟨K42c1, some 79⟩, ⟨[.slice q x_v10.length u, .int .i64 s.days, .slice l x9.length p], some 79⟩, ⟨(K42c2 x23), none⟩, ⟨(K42c3 x29), none⟩, ⟨(K42c4 x35), none⟩] [⟨ak, x40.length, al, 120, 3, (ag ++ ([.int .i64 x23.due, .int .i64 x29.work, .int .i64 x35.cost] : List Value)), bo⟩, ⟨ap, 1, 1, 120, 3, ([.int .i64 x23.due, .int .i64 x29.work, .int .i64 x35.cost] : List Value), 0⟩] ei) => ?_
     have cc : Cells ad x40 (ag ++ ([.int .i64 x23.due, .int .i64 x29.work, .int .i64 x35.cost] : List Value)) := by rw [bi]; exact Cells.append bp a4
     obtain rfl : bo = 0 := Nat.le_zero.1 cg
     refine hK _ _ a9.plOk ?_
     refine Dr [23] (dn 23) ((tP 41 2 0) :: (tS 40 ak x40.length al) :: (tI 4 x_v11) :: (tP 3 2 0) :: K42m11) cl a9 fun d7 cm => ?_
     refine D_sync 24 rfl (by kernel_rfl) (by decide) (rfl) (by kernel_rfl) fun K hK => ?_
     refine wst 2 0 (.c (.slice ak x40.length al)) [.slice ak x40.length al, .int .i64 s.days, .slice l x9.length p] cm a9 fun ej cn (bu : Mem ⟨w, h, noX⟩ ad (K42e8 a d m ab ac x_v11 ae af ah ai) [⟨(K42c7 g s k e f), some 74⟩, ⟨K42c1, some 79⟩, ⟨[.slice ak x40.length al, .int .i64 s.days, .slice l x9.length p], some 79⟩, ⟨(K42c2 x23), none⟩, ⟨(K42c3 x29), none⟩, ⟨(K42c4 x35), none⟩] [⟨ak, x40.length, al, 120, 3, (ag ++ ([.int .i64 x23.due, .int .i64 x29.work, .int .i64 x35.cost] : List Value)), 0⟩, ⟨ap, 1, 1, 120, 3, ([.int .i64 x23.due, .int .i64 x29.work, .int .i64 x35.cost] : List Value), 0⟩] ej) => hK _ _ ?_
     have co : Kn 43 (K42e8 a d m ab ac x_v11 ae af ah ai) ((tI 4 x_v11) :: (tP 3 2 0) :: K42m11) d7 := cn.kp
     refine wpG_end (by kernel_rfl) (wp_region_from (Rk 0 3 ((tI 4 (IntKind.i64.wrap (x_v11 + 1))) :: (tP 3 2 0) :: K42m11) co bu fun et cp => ?_))
     refine wf ?_
     exact Exists.intro bj ⟨Nat.lt_succ_self _, Exists.intro x40 ⟨(IntKind.i64.wrap (x_v11 + 1)), ak, al, (ag ++ ([.int .i64 x23.due, .int .i64 x29.work, .int .i64 x35.cost] : List Value)), _, _, rfl, ((cp.keep [4, 3, 2, 1] (by rfl)).cut 3 (by kernel_rfl)), ((bu.cutRw 1).cutPl 3 (by kernel_rfl)), a7, cc, aa⟩⟩
    ·
     rw [a3, cond_false] at aa
     refine wp_exit ?_
     obtain rfl := Option.some.inj aa
     exact Exists.intro q ⟨u, ag, _, _, rfl, a6.kp, am, a7, bp⟩
  ·
   rintro _ e3 ⟨y, z, ao, bk, av, rfl, cq, bv, df, a5⟩
   refine wp_seq (wp_region_from (Rk 0 1 [(tA 42 (K42c6 y x z s l x9 p)), (tP 2 1 0)] cq bv fun d8 cr => ?_))
   refine wl fun K hK => ?_
   refine wst 1 0 (.agg (K42c6 y x z s l x9 p)) (K42c6 y x z s l x9 p) cr bv fun b3 ct (bw : Mem ⟨w, h, noX⟩ av [(a, 0), (d, 0), (m, 0)] [⟨(K42c7 g s k e f), some 74⟩, ⟨(K42c6 y x z s l x9 p), some 79⟩, ⟨(K42c6 y x z s l x9 p), some 79⟩] [⟨y, x.length, z, 120, 3, ao, 0⟩] b3) => hK _ _ ?_
   have cu : Kn 43 [(a, 0), (d, 0), (m, 0)] [(tP 2 1 0)] d8 := ct.kp
   refine wf (wp_ret ?_)
   obtain ⟨a2, br, dw, ba⟩ := bw.settle (i := 0) rfl
   replace bh := bh.mono (Heap.le_trans df br)
   replace a5 := a5.mono br
   replace ba : Mem ⟨w, h, noX⟩ a2 [(a, 0), (d, 0), (m, 0)] [⟨(K42c7 g s k e f), some 74⟩, ⟨(K42c6 y x z s l x9 p), some 79⟩, ⟨(K42c6 y x z s l x9 p), some 79⟩] [⟨y, x.length, z, 120, 3, ao, (ao : List Value).length⟩] b3 := ba
   have dt : RepS a2 y z x := ⟨_, a5, dw, bw.rowCap (i := 0) rfl⟩
   obtain rfl := Option.some.inj H
   exact rt (.one (.agg (K42c6 y x z s l x9 p))) cu ba ⟨_, rfl, ((rep_pair (rep_slice dt) (rep_pair rep_int (rep_slice bh))) : rep a2 ((Shop.mk x s.days x9) : Shop) _)⟩
 refine D_two 4 6 rfl rfl (by kernel_rfl) (by decide) (rfl) (rfl) (fun K hK => ?_) (fun K hK => ?_)
 ·
  refine wc [.c (.slice e s.pits.length f)] bq be (law_list_ok n be.has s.pits a0 ex9) fun e1 b7 e4 b5 dg bb => ?_
  obtain ⟨aq, au, rfl, du⟩ := b5
  refine ⟨.one (.c (.slice aq x9.length au)), rfl, fun d9 (cw : Kn 43 [(a, 0), (d, 0), (0, 0)] ((tS 9 aq x9.length au) :: (tS 8 e s.pits.length f) :: (tI 6 s.days) :: K42m11) d9) => hK _ _ bb.plOk ?_⟩
  refine Dr [5] (dn 5) ((tA 10 [.slice none 0 0, .int .i64 s.days, .slice aq x9.length au]) :: K42m11) cw bb fun eu cx => ?_
  refine Dl 6 fun K hK => ?_
  refine waA 2 K42c1 cx bb fun ax ea ek (cy : Kn 43 [(a, 0), (d, 0), (ax, 0)] ((tP 3 2 0) :: (tA 10 [.slice none 0 0, .int .i64 s.days, .slice aq x9.length au]) :: K42m11) ea) (bx : Mem ⟨w, h, noX⟩ b7 [(a, 0), (d, 0), (ax, 0)] (K42p9 g s k e f) [] ek) => hK _ _ (PlOk.unset 2 rfl (by kernel_rfl) bx.plOk) (D_ext (e' := [(a, 0), (d, 0), (ax, 0)]) (pl' := (K42p9 g s k e f)) (fun _ hp => hp.unset 2 rfl (by kernel_rfl)) ?_)
  refine D_perm [5, 4, 6, 3, 2, 1, 0] (by kernel_rfl) (by rfl) (b0 ax aq au _ _ ?_)
  exact Exists.intro _ ⟨_, rfl, cy.kp, bx, dg, du⟩
 ·
  refine waA 2 K42c1 bq be fun ar eb el (c0 : Kn 43 [(a, 0), (d, 0), (ar, 0)] ((tP 3 2 0) :: (tS 8 e s.pits.length f) :: (tI 6 s.days) :: K42m11) eb) (bc : Mem ⟨w, h, noX⟩ h [(a, 0), (d, 0), (ar, 0)] (K42p9 g s k e f) [] el) => hK _ _ (PlOk.unset 2 rfl (by kernel_rfl) bc.plOk) (D_ext (e' := [(a, 0), (d, 0), (ar, 0)]) (pl' := (K42p9 g s k e f)) (fun _ hp => hp.unset 2 rfl (by kernel_rfl)) ?_)
  refine Dl 4 fun K hK => ?_
  refine wc [.c (.slice e s.pits.length f)] c0 bc (law_list_ok n bc.has s.pits a0 ex9) fun e2 er e5 b6 dh bd => ?_
  obtain ⟨aw, ay, rfl, dv⟩ := b6
  refine ⟨.one (.c (.slice aw x9.length ay)), rfl, fun ed (c1 : Kn 43 [(a, 0), (d, 0), (ar, 0)] ((tS 9 aw x9.length ay) :: (tP 3 2 0) :: (tS 8 e s.pits.length f) :: (tI 6 s.days) :: K42m11) ed) => hK _ _ bd.plOk ?_⟩
  refine Dr [5] [5, 4, 6, 3, 2, 1, 0] ((tA 10 [.slice none 0 0, .int .i64 s.days, .slice aw x9.length ay]) :: (tP 3 2 0) :: K42m11) c1 bd fun ev c2 => ?_
  refine D_perm [5, 4, 6, 3, 2, 1, 0] (by kernel_rfl) (by rfl) (b0 ar aw ay _ _ ?_)
  exact Exists.intro _ ⟨_, rfl, c2.kp, bd, dh, dv⟩
abbrev K43c1 (x46 : Job) : List SC := [.int .i64 x46.due, .int .i64 x46.work, .int .i64 x46.cost]
abbrev K43e2 (a i k : Nat) (x_v20 : Int) (m : Nat) : Env := [(a, 0), (i, k + (x_v20 : Int).toNat * 3), (m, 0)]
abbrev K43c3 (d : Option Addr) (s : Shop) (f : Nat) (e : Option Addr) (g : Nat) : List SC := [.slice d s.buses.length f, .int .i64 s.days, .slice e s.pits.length g]
abbrev K43m4 (x_v20 : Int) : TM := [(tI 4 x_v20), (tP 1 0 0)]
set_option maxRecDepth 100000 in
set_option maxHeartbeats 4000000 in
theorem ref_ShopFault_ok (n : Nat) {h : Heap} {w : World} (hh : Has h w) (s : Shop) {cs_s : List Value} (hx_s : rep h s cs_s) {r : Int} (H : ref_ShopFault n s = some r) :
  Calls Try.prog 43 #[.agg cs_s.toArray] w (Ret (fun h v => v = .int .i64 r) h w) := by
 obtain ⟨_, _, rfl, ⟨d, f, rfl, o⟩, ⟨_, _, rfl, rfl, ⟨e, g, rfl, p⟩⟩⟩ := hx_s
 refine enter 64 [.agg (K43c3 d s f e g)] Try.func43 rfl rfl rfl rfl fun t hk => ?_
 have hm := Mem.begin h w hh
 unfold ref_ShopFault at H
 refine wp_seq (wp_region_from (wl fun K hK => ?_))
 refine wb (.agg (K43c3 d s f e g)) hk hm fun a d3 ea (ce : Kn 64 [(a, 0)] [(tP 1 0 0), (tA 0 (K43c3 d s f e g))] d3) (q : Mem ⟨w, h, noX⟩ h [(a, 0)] [⟨(K43c3 d s f e g), some 74⟩] [] ea) => hK _ _ ?_
 refine Rk 1 1 [(tP 1 0 0)] ce q fun ek cj => ?_
 refine wf (wp_seq (wp_seq (wp_region_from (Rk 0 4 [(tB 9 (decide (((s.buses.length : Nat) : Int) > 8))), (tP 1 0 0)] cj q fun eo a1 => ?_))))
 refine wf (wC (decide (((s.buses.length : Nat) : Int) > 8)) a1 (fun av => ?_) (fun av => ?_))
 ·
  rw [av, cond_true] at H
  refine wp_seq (wp_region_from (Rk 0 1 [(tI 2 3)] a1 q fun eu cw => ?_))
  refine wf (wp_ret ?_)
  obtain rfl := Option.some.inj H
  exact rt (.one (.c (.int .i64 3))) cw q rfl
 ·
  rw [av, cond_false] at H
  refine wp_skip (wp_seq (wp_seq ?_))
  obtain ⟨bw, y, H⟩ := bnd H
  refine wp_mid' (fun a' w' => ∃ (bd : Array Value) (ab : Heap), a' = ⟨bd, []⟩ ∧ Kn 64 [(a, 0)] [(tP 1 0 0), (tB 21 bw)] bd ∧ Mem ⟨w, h, noX⟩ ab [(a, 0)] [⟨(K43c3 d s f e g), some 74⟩] [] w' ∧ Heap.le h ab) ?_ ?_
  ·
   refine wp_region_from (Rk 0 2 [(tI 11 s.days), (tP 1 0 0)] a1 q fun e2 c5 => ?_)
   obtain ⟨x12, ex12, y⟩ := bnd y
   refine wl fun K hK => ?_
   refine wc [.c (.int .i64 s.days), .c (.int .i64 1), .c (.int .i64 14)] c5 q (ref_In_ok n q.has s.days 1 14 ex12) fun fg eg fm b8 bq ah => ?_
   obtain rfl := b8
   refine ⟨.one (.c (.bool x12)), rfl, fun d2 (c6 : Kn 64 [(a, 0)] [(tB 12 x12), (tI 11 s.days), (tP 1 0 0)] d2) => hK _ _ ?_⟩
   refine Rk 3 2 [(tB 14 (!x12)), (tP 1 0 0)] c6 ah fun b4 bo => ?_
   rcases Bool.eq_false_or_eq_true ((!x12)) with af | af
   ·
    rw [af, cond_true] at y
    have c7 : Kn 64 [(a, 0)] [(tB 14 true), (tP 1 0 0)] b4 := (bo.setB 14 true (by rfl) af).kp
    refine Rk 5 7 [(tB 21 true), (tP 1 0 0)] c7 ah fun e3 c8 => ?_
    refine wf ?_
    obtain rfl := Option.some.inj y
    exact Exists.intro _ ⟨_, rfl, c8.kp, ah, bq⟩
   ·
    rw [af, cond_false] at y
    have c9 : Kn 64 [(a, 0)] [(tB 14 false), (tP 1 0 0)] b4 := (bo.setB 14 false (by rfl) af).kp
    refine Rk 5 7 [(tB 21 (((s.pits.length : Nat) : Int) != s.days)), (tP 1 0 0)] c9 ah fun e4 da => ?_
    refine wf ?_
    obtain rfl := Option.some.inj y
    exact Exists.intro _ ⟨_, rfl, da.kp, ah, bq⟩
  ·
   rintro _ fn ⟨bd, ab, rfl, a3, an, br⟩
   replace o := o.mono br
   replace p := p.mono br
   refine wC (bw) a3 (fun ax => ?_) (fun ax => ?_)
   ·
    rw [ax, cond_true] at H
    refine wp_seq (wp_region_from (Rk 0 1 [(tI 2 1)] a3 an fun e5 db => ?_))
    refine wf (wp_ret ?_)
    obtain rfl := Option.some.inj H
    exact rt (.one (.c (.int .i64 1))) db an rfl
   ·
    rw [ax, cond_false] at H
    refine wp_skip (wp_seq (wp_seq (wp_region_from (Rk 0 1 [(tI 3 0), (tP 1 0 0)] a3 an fun e6 dc => ?_))))
    refine wf ?_
    obtain ⟨bx, bh, H⟩ := bnd H
    refine wp_mid' (fun a' w' => ∃ (b0 : Unit) (be : Array Value) (ac : Heap), a' = ⟨be, []⟩ ∧ Kn 64 [(a, 0)] [(tP 1 0 0)] be ∧ Mem ⟨w, h, noX⟩ ac [(a, 0)] [⟨(K43c3 d s f e g), some 74⟩] [] w' ∧ Heap.le ab ac ∧ bx = .go b0) ?_ ?_
    ·
     refine wp_block ?_
     refine wp_loop_n (fun dx a' w' => ∃ (x_v10 : Int) (bf : Array Value) (aj : Heap), a' = ⟨bf, []⟩ ∧ Kn 64 [(a, 0)] [(tI 3 x_v10), (tP 1 0 0)] bf ∧ Mem ⟨w, h, noX⟩ aj [(a, 0)] [⟨(K43c3 d s f e g), some 74⟩] [] w' ∧ Heap.le ab aj ∧ ref_ShopFault_l1 dx s x_v10 = some bx) n ?_ ?_
     ·
      exact Exists.intro 0 ⟨_, _, rfl, dc.kp, an, (Heap.le_refl _), bh⟩
     ·
      rintro ap _ d9 ⟨x_v10, bf, aj, rfl, dd, ao, al, l⟩
      clear bh
      obtain _ | ap := ap
      ·
       rw [ref_ShopFault_l1] at l; cases l
      rw [ref_ShopFault_l1] at l
      replace o := o.mono al
      replace p := p.mono al
      refine wp_seq (wp_seq (wp_region_from (Rk 0 5 [(tB 26 (decide (x_v10 < ((s.pits.length : Nat) : Int)))), (tI 3 x_v10), (tP 1 0 0)] dd ao fun e7 a4 => ?_)))
      refine wf (wC (decide (x_v10 < ((s.pits.length : Nat) : Int))) a4 (fun ay => ?_) (fun ay => ?_))
      ·
       rw [ay, cond_true] at l
       refine wp_skip (wp_seq (wp_block (wp_seq (wp_region_from (Rk 0 3 [(tI 31 x_v10), (tS 30 e s.pits.length g), (tI 3 x_v10), (tP 1 0 0)] a4 ao fun e8 de => ?_)))))
       obtain ⟨x32, ex32, l⟩ := bnd l
       obtain ⟨dp, dr, dv⟩ := idx_some ex32
       obtain ⟨aq, ba, ec, cb, dt, cd⟩ := p.get (by decide) dv
       obtain rfl := dt
       have a9 : Mem ⟨w, h, noX⟩ aj [(a, 0), (aq, ba + (x_v10 : Int).toNat * 1)] [⟨(K43c3 d s f e g), some 74⟩, ⟨[.int .i64 x32], none⟩] [] d9 := ao.addPlc (cs := [.int .i64 x32]) (fun j c hj => cd j _ (map_get hj)) rfl (by kernel_rfl) (by kernel_rfl)
       refine R_index 3 (x_v10) rfl rfl (rfl) rfl (by decide) de (by rfl) (by rfl) (by rfl) cb (by rfl) dp dr (by kernel_rfl) fun d4 (df : Kn 64 [(a, 0), (aq, ba + (x_v10 : Int).toNat * 1)] [(tP 32 1 0), (tI 31 x_v10), (tS 30 e s.pits.length g), (tI 3 x_v10), (tP 1 0 0)] d4) => ?_
       refine Rk 4 1 [(tI 33 x32), (tI 3 x_v10), (tP 1 0 0)] df a9 fun e9 dg => ?_
       obtain ⟨x34, ex34, l⟩ := bnd l
       refine wl fun K hK => ?_
       refine wc [.c (.int .i64 x32), .c (.int .i64 0), .c (.int .i64 160)] dg a9 (ref_In_ok ap a9.has x32 0 160 ex34) fun fh eh fo b9 dl ai => ?_
       obtain rfl := b9
       refine ⟨.one (.c (.bool x34)), rfl, fun d5 (dh : Kn 64 [(a, 0), (aq, ba + (x_v10 : Int).toNat * 1)] [(tB 34 x34), (tI 33 x32), (tI 3 x_v10), (tP 1 0 0)] d5) => hK _ _ ?_⟩
       refine Rk 6 1 [(tB 35 (!x34)), (tI 3 x_v10), (tP 1 0 0)] dh ai fun fa a5 => ?_
       refine wf (wC ((!x34)) a5 (fun az => ?_) (fun az => ?_))
       ·
        rw [az, cond_true] at l
        refine wp_seq (wp_region_from (Rk 0 1 [(tI 2 1)] a5 ai fun fb di => ?_))
        refine wf (wp_ret ?_)
        obtain rfl := Option.some.inj l
        obtain rfl := Option.some.inj H
        exact rt (.one (.c (.int .i64 1))) di ai rfl
       ·
        rw [az, cond_false] at l
        refine wp_skip (wp_region_from (Rk 0 3 [(tI 3 (IntKind.i64.wrap (x_v10 + 1))), (tP 1 0 0)] a5 ai fun fc dj => ?_))
        refine wf ?_
        exact Exists.intro ap ⟨Nat.lt_succ_self _, Exists.intro (IntKind.i64.wrap (x_v10 + 1)) ⟨_, _, rfl, ((dj.keep [3, 1] (by rfl)).cut 1 (by kernel_rfl)), (ai.cutPl 1 (by kernel_rfl)), (Heap.le_trans al dl), l⟩⟩
      ·
       rw [ay, cond_false] at l
       refine wp_exit ?_
       obtain rfl := Option.some.inj l
       exact Exists.intro () ⟨_, _, rfl, a4.kp, ao, al, rfl⟩
    ·
     rintro _ fp ⟨b0, be, ac, rfl, cf, bs, bp, rfl⟩
     rw [Ex.bind_go] at H
     replace o := o.mono bp
     replace p := p.mono bp
     refine wp_seq (wp_seq (wp_region_from (Rk 0 1 [(tI 4 0), (tP 1 0 0)] cf bs fun ej cg => ?_)))
     refine wf ?_
     obtain ⟨bv, bg, H⟩ := bnd H
     refine wp_mid' (fun a' w' => ∃ (bz : Unit) (bb : Array Value) (ar : Heap), a' = ⟨bb, []⟩ ∧ Kn 64 [(a, 0)] [] bb ∧ Mem ⟨w, h, noX⟩ ar [(a, 0)] [⟨(K43c3 d s f e g), some 74⟩] [] w' ∧ Heap.le ac ar ∧ bv = .go bz) ?_ ?_
     ·
      refine wp_block ?_
      refine wp_loop_n (fun dw a' w' => ∃ (x_v20 : Int) (bc : Array Value) (z : Heap), a' = ⟨bc, []⟩ ∧ Kn 64 [(a, 0)] (K43m4 x_v20) bc ∧ Mem ⟨w, h, noX⟩ z [(a, 0)] [⟨(K43c3 d s f e g), some 74⟩] [] w' ∧ Heap.le ac z ∧ ref_ShopFault_l2 dw s x_v20 = some bv) n ?_ ?_
      ·
       exact Exists.intro 0 ⟨_, _, rfl, cg.kp, bs, (Heap.le_refl _), bg⟩
      ·
       rintro aa _ d6 ⟨x_v20, bc, z, rfl, ch, am, ak, b⟩
       clear bg
       obtain _ | aa := aa
       ·
        rw [ref_ShopFault_l2] at b; cases b
       rw [ref_ShopFault_l2] at b
       replace o := o.mono ak
       replace p := p.mono ak
       refine wp_seq (wp_seq (wp_region_from (Rk 0 5 ((tB 40 (decide (x_v20 < ((s.buses.length : Nat) : Int)))) :: (K43m4 x_v20)) ch am fun el a0 => ?_)))
       refine wf (wC (decide (x_v20 < ((s.buses.length : Nat) : Int))) a0 (fun au => ?_) (fun au => ?_))
       ·
        rw [au, cond_true] at b
        refine wp_skip (wp_seq (wp_block (wp_seq (wp_region_from (Rk 0 3 ((tI 45 x_v20) :: (tS 44 d s.buses.length f) :: (K43m4 x_v20)) a0 am fun em ci => ?_)))))
        obtain ⟨x46, ex46, b⟩ := bnd b
        obtain ⟨dn, dq, du⟩ := idx_some ex46
        obtain ⟨i, k, eb, ca, ds, cc⟩ := o.get (by decide) du
        obtain ⟨_, _, rfl, rfl, ⟨_, _, rfl, rfl, rfl⟩⟩ := ds
        have bt : Mem ⟨w, h, noX⟩ z [(a, 0), (i, k + (x_v20 : Int).toNat * 3)] [⟨(K43c3 d s f e g), some 74⟩, ⟨(K43c1 x46), none⟩] [] d6 := am.addPlc (cs := (K43c1 x46)) (fun j c hj => cc j _ (map_get hj)) rfl (by kernel_rfl) (by kernel_rfl)
        refine R_index 3 (x_v20) rfl rfl (rfl) rfl (by decide) ci (by rfl) (by rfl) (by rfl) ca (by rfl) dn dq (by kernel_rfl) fun dy (ck : Kn 64 [(a, 0), (i, k + (x_v20 : Int).toNat * 3)] ((tP 46 1 0) :: (tI 45 x_v20) :: (tS 44 d s.buses.length f) :: (K43m4 x_v20)) dy) => ?_
        refine Rk 4 1 ((tA 47 (K43c1 x46)) :: (K43m4 x_v20)) ck bt fun en cl => ?_
        refine wl fun K hK => ?_
        refine wa [.int .i64 0, .int .i64 0, .int .i64 0] cl bt fun m b1 d7 (cm : Kn 64 (K43e2 a i k x_v20 m) ((tP 5 2 0) :: (tA 47 (K43c1 x46)) :: (K43m4 x_v20)) b1) (dm : Mem ⟨w, h, noX⟩ z (K43e2 a i k x_v20 m) [⟨(K43c3 d s f e g), some 74⟩, ⟨(K43c1 x46), none⟩, ⟨[.int .i64 0, .int .i64 0, .int .i64 0], some 94⟩] [] d7) => hK _ _ ?_
        refine wl fun K hK => ?_
        refine wst 2 0 (.agg (K43c1 x46)) (K43c1 x46) cm dm fun d8 cn (a8 : Mem ⟨w, h, noX⟩ z (K43e2 a i k x_v20 m) [⟨(K43c3 d s f e g), some 74⟩, ⟨(K43c1 x46), none⟩, ⟨(K43c1 x46), some 94⟩] [] d8) => hK _ _ ?_
        have co : Kn 64 (K43e2 a i k x_v20 m) ((tP 5 2 0) :: (K43m4 x_v20)) b1 := cn.kp
        refine wf (wp_seq (wp_region_from (Rk 0 2 ((tI 49 x46.due) :: (tP 5 2 0) :: (K43m4 x_v20)) co a8 fun ep cp => ?_)))
        obtain ⟨x50, ex50, b⟩ := bnd b
        refine wl fun K hK => ?_
        refine wc [.c (.int .i64 x46.due), .c (.int .i64 0), .c (.int .i64 14)] cp a8 (ref_In_ok aa a8.has x46.due 0 14 ex50) fun fd ed fi b5 a6 u => ?_
        replace o := o.mono a6
        replace p := p.mono a6
        obtain rfl := b5
        refine ⟨.one (.c (.bool x50)), rfl, fun dz (cq : Kn 64 (K43e2 a i k x_v20 m) ((tB 50 x50) :: (tI 49 x46.due) :: (tP 5 2 0) :: (K43m4 x_v20)) dz) => hK _ _ ?_⟩
        refine Rk 3 2 ((tB 52 (!x50)) :: (tP 5 2 0) :: (K43m4 x_v20)) cq u fun b2 bi => ?_
        rcases Bool.eq_false_or_eq_true ((!x50)) with ad | ad
        ·
         rw [ad, cond_true] at b
         have cr : Kn 64 (K43e2 a i k x_v20 m) ((tB 52 true) :: (tP 5 2 0) :: (K43m4 x_v20)) b2 := (bi.setB 52 true (by rfl) ad).kp
         refine Rk 5 11 ((tB 63 true) :: (K43m4 x_v20)) cr u fun er bj => ?_
         refine wf (wC true bj (fun hb => ?_) (fun hb => ?_))
         rotate_left
         ·
          cases hb
         refine wp_seq (wp_region_from (Rk 0 1 [(tI 2 1)] bj u fun es ct => ?_))
         refine wf (wp_ret ?_)
         obtain rfl := Option.some.inj b
         obtain rfl := Option.some.inj H
         exact rt (.one (.c (.int .i64 1))) ct u rfl
        ·
         rw [ad, cond_false] at b
         have cu : Kn 64 (K43e2 a i k x_v20 m) ((tB 52 false) :: (tP 5 2 0) :: (K43m4 x_v20)) b2 := (bi.setB 52 false (by rfl) ad).kp
         refine Rk 5 2 ((tI 54 x46.work) :: (tB 52 false) :: (tP 5 2 0) :: (K43m4 x_v20)) cu u fun et bk => ?_
         obtain ⟨x55, ex55, b⟩ := bnd b
         refine wpFrom_loud _ rfl (wantedS_sound bk (by kernel_rfl)) fun K hK => ?_
         refine wc [.c (.int .i64 x46.work), .c (.int .i64 1), .c (.int .i64 20)] bk u (ref_In_ok aa u.has x46.work 1 20 ex55) fun fe ee fj b6 a7 x => ?_
         replace o := o.mono a7
         replace p := p.mono a7
         obtain rfl := b6
         refine ⟨.one (.c (.bool x55)), rfl, fun d0 (cv : Kn 64 (K43e2 a i k x_v20 m) ((tB 55 x55) :: (tI 54 x46.work) :: (tB 52 false) :: (tP 5 2 0) :: (K43m4 x_v20)) d0) => hK _ _ ?_⟩
         refine Rk 8 3 ((tB 58 (!x55)) :: (tP 5 2 0) :: (K43m4 x_v20)) cv x fun b3 bl => ?_
         rcases Bool.eq_false_or_eq_true ((!x55)) with ae | ae
         ·
          rw [ae, cond_true] at b
          have cx : Kn 64 (K43e2 a i k x_v20 m) ((tB 58 true) :: (tP 5 2 0) :: (K43m4 x_v20)) b3 := (bl.setB 58 true (by rfl) ae).kp
          refine Rk 11 5 ((tB 63 true) :: (K43m4 x_v20)) cx x fun ev bm => ?_
          refine wf (wC true bm (fun hb => ?_) (fun hb => ?_))
          rotate_left
          ·
           cases hb
          refine wp_seq (wp_region_from (Rk 0 1 [(tI 2 1)] bm x fun ew cy => ?_))
          refine wf (wp_ret ?_)
          obtain rfl := Option.some.inj b
          obtain rfl := Option.some.inj H
          exact rt (.one (.c (.int .i64 1))) cy x rfl
         ·
          rw [ae, cond_false] at b
          have cz : Kn 64 (K43e2 a i k x_v20 m) ((tB 58 false) :: (tP 5 2 0) :: (K43m4 x_v20)) b3 := (bl.setB 58 false (by rfl) ae).kp
          refine Rk 11 2 ((tI 60 x46.cost) :: (tB 58 false) :: (K43m4 x_v20)) cz x fun ex bn => ?_
          obtain ⟨x61, ex61, b⟩ := bnd b
          refine wpFrom_loud _ rfl (wantedS_sound bn (by kernel_rfl)) fun K hK => ?_
          refine wc [.c (.int .i64 x46.cost), .c (.int .i64 0), .c (.int .i64 1000)] bn x (ref_In_ok aa x.has x46.cost 0 1000 ex61) fun ff ef fk b7 dk ag => ?_
          obtain rfl := b7
          refine ⟨.one (.c (.bool x61)), rfl, fun d1 (c0 : Kn 64 (K43e2 a i k x_v20 m) ((tB 61 x61) :: (tI 60 x46.cost) :: (tB 58 false) :: (K43m4 x_v20)) d1) => hK _ _ ?_⟩
          refine Rk 14 2 ((tB 63 (!x61)) :: (K43m4 x_v20)) c0 ag fun ey a2 => ?_
          refine wf (wC ((!x61)) a2 (fun aw => ?_) (fun aw => ?_))
          ·
           rw [aw, cond_true] at b
           refine wp_seq (wp_region_from (Rk 0 1 [(tI 2 1)] a2 ag fun ez c1 => ?_))
           refine wf (wp_ret ?_)
           obtain rfl := Option.some.inj b
           obtain rfl := Option.some.inj H
           exact rt (.one (.c (.int .i64 1))) c1 ag rfl
          ·
           rw [aw, cond_false] at b
           refine wp_skip (wp_region_from (Rk 0 3 [(tI 4 (IntKind.i64.wrap (x_v20 + 1))), (tP 1 0 0)] a2 ag fun e0 c2 => ?_))
           refine wf ?_
           exact Exists.intro aa ⟨Nat.lt_succ_self _, Exists.intro (IntKind.i64.wrap (x_v20 + 1)) ⟨_, _, rfl, ((c2.keep [4, 1] (by rfl)).cut 1 (by kernel_rfl)), (ag.cutPl 1 (by kernel_rfl)), (Heap.le_trans ak (Heap.le_trans a6 (Heap.le_trans a7 dk))), b⟩⟩
       ·
        rw [au, cond_false] at b
        refine wp_exit ?_
        obtain rfl := Option.some.inj b
        exact Exists.intro () ⟨_, _, rfl, a0.kp, am, ak, rfl⟩
     ·
      rintro _ fl ⟨bz, bb, ar, rfl, c3, bu, ei, rfl⟩
      rw [Ex.bind_go] at H
      refine wp_seq (wp_region_from (Rk 0 1 [(tI 2 0)] c3 bu fun e1 c4 => ?_))
      refine wf (wp_ret ?_)
      obtain rfl := Option.some.inj H
      exact rt (.one (.c (.int .i64 0))) c4 bu rfl
abbrev K51c1 (b : Option Addr) (s : Shop) (e : Nat) (d : Option Addr) (f : Nat) : List SC := [.slice b s.buses.length e, .int .i64 s.days, .slice d s.pits.length f]
set_option maxRecDepth 100000 in
set_option maxHeartbeats 4000000 in
theorem law_small_ok (n : Nat) {h : Heap} {w : World} (hh : Has h w) (s : Shop) {cs_s : List Value} (hx_s : rep h s cs_s) {r : Bool} (H : law_small n s = some r) :
  Calls Try.prog 51 #[.agg cs_s.toArray] w (Ret (fun h v => v = .bool r) h w) := by
 obtain ⟨_, _, rfl, ⟨b, e, rfl, ah⟩, ⟨_, _, rfl, rfl, ⟨d, f, rfl, ai⟩⟩⟩ := hx_s
 refine enter 18 [.agg (K51c1 b s e d f)] Try.func51 rfl rfl rfl rfl fun t hk => ?_
 have hm := Mem.begin h w hh
 unfold law_small at H
 refine wp_seq (wp_region_from (wl fun K hK => ?_))
 refine wb (.agg (K51c1 b s e d f)) hk hm fun g ak al (x : Kn 18 [(g, 0)] [(tP 1 0 0), (tA 0 (K51c1 b s e d f))] ak) (a : Mem ⟨w, h, noX⟩ h [(g, 0)] [⟨(K51c1 b s e d f), some 74⟩] [] al) => hK _ _ ?_
 refine Rk 1 1 [(tP 1 0 0)] x a fun ao y => ?_
 refine wf (wp_seq (wp_region_from (Rk 0 5 [(tB 7 (decide (((s.buses.length : Nat) : Int) ≤ 6))), (tP 1 0 0)] y a fun p k => ?_)))
 rcases Bool.eq_false_or_eq_true (decide (((s.buses.length : Nat) : Int) ≤ 6)) with i | i
 ·
  rw [i, cond_true] at H
  have z : Kn 18 [(g, 0)] [(tB 7 true), (tP 1 0 0)] p := (k.setB 7 true (by rfl) i).kp
  refine Rk 5 6 [(tB 13 (decide (((s.pits.length : Nat) : Int) ≤ 6))), (tP 1 0 0)] z a fun q l => ?_
  rcases Bool.eq_false_or_eq_true (decide (((s.pits.length : Nat) : Int) ≤ 6)) with j | j
  ·
   rw [j, cond_true] at H
   have aa : Kn 18 [(g, 0)] [(tB 13 true), (tP 1 0 0)] q := (l.setB 13 true (by rfl) j).kp
   refine Rk 11 1 [(tA 14 (K51c1 b s e d f)), (tB 13 true)] aa a fun ap m => ?_
   obtain ⟨x15, ex15, H⟩ := bnd H
   refine wpFrom_loud _ rfl (wantedS_sound m (by kernel_rfl)) fun K hK => ?_
   refine wc [.agg (K51c1 b s e d f)] m a (ref_ShopFault_ok n a.has s ((rep_pair (rep_slice ah) (rep_pair rep_int (rep_slice ai))) : rep h s _) ex15) fun av am aw u an o => ?_
   obtain rfl := u
   refine ⟨.one (.c (.int .i64 x15)), rfl, fun aj (ab : Kn 18 [(g, 0)] [(tI 15 x15), (tA 14 (K51c1 b s e d f)), (tB 13 true)] aj) => hK _ _ ?_⟩
   refine Rk 13 3 [(tB 2 (x15 == 0))] ab o fun aq ac => ?_
   refine wf (wp_ret ?_)
   obtain rfl := Option.some.inj H
   exact rt (.one (.c (.bool (x15 == 0)))) ac o rfl
  ·
   rw [j, cond_false] at H
   have ad : Kn 18 [(g, 0)] [(tB 13 false), (tP 1 0 0)] q := (l.setB 13 false (by rfl) j).kp
   refine Rk 11 5 [(tB 2 false)] ad a fun ar ae => ?_
   refine wf (wp_ret ?_)
   obtain rfl := Option.some.inj H
   exact rt (.one (.c (.bool false))) ae a rfl
 ·
  rw [i, cond_false] at H
  have af : Kn 18 [(g, 0)] [(tB 7 false), (tP 1 0 0)] p := (k.setB 7 false (by rfl) i).kp
  refine Rk 5 11 [(tB 2 false)] af a fun au ag => ?_
  refine wf (wp_ret ?_)
  obtain rfl := Option.some.inj H
  exact rt (.one (.c (.bool false))) ag a rfl
end Go.Proofs.Ytkbphdjemgibnaa
